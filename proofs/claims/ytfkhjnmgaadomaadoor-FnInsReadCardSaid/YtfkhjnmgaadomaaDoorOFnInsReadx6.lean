-- Laid by a program of this session (wip/myprint.py): the kit's print of the functions, contracts of our own among them.
import Derived.Test.YtfkhjnmgaadomaaDoorOFnInsReadx0
import Derived.Test.YtfkhjnmgaadomaaDoorOFnInsReadx2
import Derived.Test.YtfkhjnmgaadomaaDoorOFnInsReadx5
namespace Go.Proofs.YtfkhjnmgaadomaaDoor.OFnInsRead
open Go.RowKit Go.Proofs.YtfkhjnmgaadomaaDoorW.PrintWords Go.Proofs.YtfkhjnmgaadomaaDoorW.PrintLast Go.Proofs.YtfkhjnmgaadomaaDoorW.PrintMore
attribute [local go_sem] max2_int min2_int max_two min_two max_three min_three max_four min_four   -- for this text's walks alone
set_option linter.unusedVariables false
set_option linter.unusedSimpArgs false

/-! ### impl_InsRead: function 26 -/
mutual
def impl_InsRead.j0 : Nat → List ByteArray → Bool → Option (ByteArray × Int × Int × Bool)
 | 0,_,_ => none
 | k + 1,x4,x30 => if x30 = true then (some ((⟨#[]⟩ : ByteArray),0,0,false)) else (if 0 < (x4.length : Int) then (if 1 ≤ (x4.length : Int) then ((some (x4.drop 1 : List ByteArray)).bind fun y239 => (impl_InsRead.l0 k y239 (y239.length : Int) 0 (rdOf ByteArray.empty x4 0) 0 0)) else (none)) else (none))
def impl_InsRead.l0 : Nat → List ByteArray → Int → Int → ByteArray → Int → Int → Option (ByteArray × Int × Int × Bool)
 | 0,_,_,_,_,_,_ => none
 | k + 1,x37,x38,x39,x239000,x239001,x239002 => if x39 < x38 then (if 0 ≤ x39 then (if x39 < (x37.length : Int) then ((impl_decimal.f k (rdOf ByteArray.empty x37 x39)).bind fun bt246 => (if bt246.2 = true then (if x39 = 0 then (impl_InsRead.l0 k x37 x38 (wrap64 (x39 + 1)) x239000 bt246.1 x239002) else (impl_InsRead.l0 k x37 x38 (wrap64 (x39 + 1)) x239000 x239001 bt246.1)) else (some ((⟨#[]⟩ : ByteArray),0,0,false)))) else (none)) else (none)) else ((impl_InsOk.f k x239000 x239001 x239002).bind fun t244 => (if t244 = true then (some (x239000,x239001,x239002,true)) else (some ((⟨#[]⟩ : ByteArray),0,0,false))))
end
def impl_InsRead.f (k : Nat) (a0 : ByteArray) : Option (ByteArray × Int × Int × Bool):=(strings_Split.f a0 (⟨#[32]⟩ : ByteArray)).bind fun t227 => (if 0 < (t227.length : Int) then ((impl_formOf.f k (rdOf ByteArray.empty t227 0)).bind fun bt231 => (if bt231.2.2.2 = true then ((impl_insForm_many.f bt231.1 bt231.2.1 bt231.2.2.1).bind fun t236 => (impl_InsRead.j0 k t227 ((t227.length : Int) != (wrap64 (1 + t236))))) else (impl_InsRead.j0 k t227 true))) else (none))
theorem impl_InsRead.mono_l : ∀ k,(∀ y0 y1,LeO (impl_InsRead.j0 k y0 y1) (impl_InsRead.j0 (k + 1) y0 y1)) ∧ (∀ y0 y1 y2 y3 y4 y5,LeO (impl_InsRead.l0 k y0 y1 y2 y3 y4 y5) (impl_InsRead.l0 (k + 1) y0 y1 y2 y3 y4 y5))
 | 0 => ⟨fun _ _ r h => by simp [impl_InsRead.j0] at h,fun _ _ _ _ _ _ r h => by simp [impl_InsRead.l0] at h⟩
 | k + 1 => by
  obtain ⟨ih0,ih1⟩:=impl_InsRead.mono_l k
  refine ⟨?_,?_⟩
  ·intro y0 y1
   unfold impl_InsRead.j0
   repeat' first
   | (with_reducible exact ih0 _ _)
   | (with_reducible exact ih1 _ _ _ _ _ _)
   | (with_reducible exact impl_InsOk.mono _ _ _ _)
   | (with_reducible exact impl_decimal.mono _ _)
   | (with_reducible exact impl_formOf.mono _ _)
   | (with_reducible exact LeO.refl _)
   | (with_reducible exact LeO.none _)
   | (with_reducible refine LeO.ite ?_ ?_)
   | (with_reducible refine LeO.bind ?_ (fun _ => ?_))
   | exact ih0 _ _
   | exact ih1 _ _ _ _ _ _
   | exact impl_InsOk.mono _ _ _ _
   | exact impl_decimal.mono _ _
   | exact impl_formOf.mono _ _
   | exact LeO.none _
   | refine LeO.ite ?_ ?_
   | refine LeO.bind ?_ (fun _ => ?_)
  ·intro y0 y1 y2 y3 y4 y5
   unfold impl_InsRead.l0
   repeat' first
   | (with_reducible exact ih0 _ _)
   | (with_reducible exact ih1 _ _ _ _ _ _)
   | (with_reducible exact impl_InsOk.mono _ _ _ _)
   | (with_reducible exact impl_decimal.mono _ _)
   | (with_reducible exact impl_formOf.mono _ _)
   | (with_reducible exact LeO.refl _)
   | (with_reducible exact LeO.none _)
   | (with_reducible refine LeO.ite ?_ ?_)
   | (with_reducible refine LeO.bind ?_ (fun _ => ?_))
   | exact ih0 _ _
   | exact ih1 _ _ _ _ _ _
   | exact impl_InsOk.mono _ _ _ _
   | exact impl_decimal.mono _ _
   | exact impl_formOf.mono _ _
   | exact LeO.none _
   | refine LeO.ite ?_ ?_
   | refine LeO.bind ?_ (fun _ => ?_)
theorem impl_InsRead.mono : ∀ a0 k,LeO (impl_InsRead.f k a0) (impl_InsRead.f (k + 1) a0):=by
 intro a0 k
 obtain ⟨ih0,ih1⟩:=impl_InsRead.mono_l k
 unfold impl_InsRead.f
 repeat' first
   | (with_reducible exact ih0 _ _)
   | (with_reducible exact ih1 _ _ _ _ _ _)
   | (with_reducible exact impl_InsOk.mono _ _ _ _)
   | (with_reducible exact impl_decimal.mono _ _)
   | (with_reducible exact impl_formOf.mono _ _)
   | (with_reducible exact LeO.refl _)
   | (with_reducible exact LeO.none _)
   | (with_reducible refine LeO.ite ?_ ?_)
   | (with_reducible refine LeO.bind ?_ (fun _ => ?_))
   | exact ih0 _ _
   | exact ih1 _ _ _ _ _ _
   | exact impl_InsOk.mono _ _ _ _
   | exact impl_decimal.mono _ _
   | exact impl_formOf.mono _ _
   | exact LeO.none _
   | refine LeO.ite ?_ ?_
   | refine LeO.bind ?_ (fun _ => ?_)
set_option maxHeartbeats 8000000 in
set_option maxRecDepth 100000 in
theorem impl_InsRead.calls (k : Nat) (a0 : ByteArray) (r1 : ByteArray) (r2 : Int) (r3 : Int) (r4 : Bool) (w : World) (hT_ : Tab w) (h : impl_InsRead.f k a0 = some (r1,r2,r3,r4)) :
  Calls Tryd.prog 26 #[.string a0] w fun e w' => e = .returned (.tuple #[.agg #[.string r1,.int .i64 r2,.int .i64 r3],.bool r4]) ∧ Below w.heap.size w w':=by
 have hu26:=Tryd.underlying26
 have hu46:=Tryd.underlying46
 have HB:=Aside0.mk (Below.refl w.heap.size w)
 have H : ((strings_Split.f a0 (⟨#[32]⟩ : ByteArray)).bind fun t227 => (if 0 < (t227.length : Int) then ((impl_formOf.f k (rdOf ByteArray.empty t227 0)).bind fun bt231 => (if bt231.2.2.2 = true then ((impl_insForm_many.f bt231.1 bt231.2.1 bt231.2.2.1).bind fun t236 => (impl_InsRead.j0 k t227 ((t227.length : Int) != (wrap64 (1 + t236))))) else (impl_InsRead.j0 k t227 true))) else (none))) = some (r1,r2,r3,r4):=h
 clear h
 replace H:=Option.bind_eq_some_iff.mp H
 obtain ⟨t227,A20,H⟩:=H
 replace H : (if 0 < (t227.length : Int) then ((impl_formOf.f k (rdOf ByteArray.empty t227 0)).bind fun bt231 => (if bt231.2.2.2 = true then ((impl_insForm_many.f bt231.1 bt231.2.1 bt231.2.2.1).bind fun t236 => (impl_InsRead.j0 k t227 ((t227.length : Int) != (wrap64 (1 + t236))))) else (impl_InsRead.j0 k t227 true))) else (none)) = some (r1,r2,r3,r4):=H
 have A2:=Aside0.mk A20
 clear A20
 by_cases c3 : 0 < (t227.length : Int)
 ·rw [if_pos c3] at H
  have c3b0 : decide (0 < (t227.length : Int)) = true:=decide_eq_true c3
  have c3b1 : decide (0 < t227.length) = true:=decide_eq_true (by omega)
  clear c3
  replace H:=Option.bind_eq_some_iff.mp H
  obtain ⟨⟨t231,t232,t233,t234⟩,A40,H⟩:=H
  replace H : (if t234 = true then ((impl_insForm_many.f t231 t232 t233).bind fun t236 => (impl_InsRead.j0 k t227 ((t227.length : Int) != (wrap64 (1 + t236))))) else (impl_InsRead.j0 k t227 true)) = some (r1,r2,r3,r4):=H
  have A4:=Aside0.mk A40
  clear A40
  have HC5:=Aside0.mk H
  clear H
  go_enter Tryd.func26,Tryd.ntmps26
  go_upto_region 3 with (first | ((with_reducible refine gate_dst (N:=2) rfl ?_);(try (refine gate_guard (by rfl) ?_;dsimp only));refine Up.bx 2 26 #[.string (⟨#[]⟩ : ByteArray),.int .i64 0,.int .i64 0] ?_;intro gb226 hg w6 hbox hb;have n0_:=Up.BB HB hb;have n1_:=Aside0.mk (hbox);have n2_:=Up.gw hg HB;have n3_:=Up.gw hg HB;clear HB;have HB:=n0_;have BK226:=n1_;have GW226:=n2_;have GE226:=n3_;clear n0_ n1_ n2_ n3_ hb hbox hg) | ((with_reducible refine gate_callee (f:=47) rfl ?_);refine Up.gl (some 13) Tryd.func47 #[.string a0,.string (⟨#[32]⟩ : ByteArray)] ?_;(with_reducible refine (strings_Split.calls (hT_:=?tab1) a0 (⟨#[32]⟩ : ByteArray) t227 _ A2.out).mono ?_);(case tab1 => exact hT_.below (Up.Bx HB));rintro e w7 ⟨v228,rfl,ho0,hb⟩;refine ⟨_,rfl,?_⟩;have n0_:=Aside0.mk (Kd.V_lower (Kd.V_mono (ok':=fun k_ => k_ ≠ gb226) ho0 (fun k_ hk_ => (Kd.freshB (g:=gb226) (o:=.cells #[.string (⟨#[]⟩ : ByteArray),.int .i64 0,.int .i64 0] 26 (0,0)) (Up.Kup BK226) k_ hk_))) (below_size (Up.Bx HB)));have n1_:=Up.KB BK226 hb;have n2_:=Aside0.mk (below_step (Up.Bx HB) hb);clear BK226 HB;have HO229:=n0_;have BK226:=n1_;have HB:=n2_;clear n0_ n1_ n2_;(try clear hb);(try clear hb2);(try clear hk);(try clear hi);(try clear ho0);obtain ⟨Ao8,co8,eo8⟩:=Kd.V_slice HO229.out;subst eo8;have p230 : 0 ≤ (0 : Int):=(by omega);have q230 : 0 < (t227.length : Int):=Up.od;obtain ⟨ad230,e230,hx230_0⟩:=Kd.at_string (Kd.V_reads' HO229.out).2.2 0 p230 q230;cases e230;have qi230 : (0 < t227.length) = True:=eq_true (by omega);(try rw [show ((0 : Int)).toNat = 0 from rfl] at hx230_0);(try rw [Addr.add_zero'] at hx230_0);replace p230:=eq_true p230;replace q230:=eq_true q230) | ((with_reducible refine gate_callee (f:=32) rfl ?_);refine Up.gl (some 18) Tryd.func32 #[.string (rdOf ByteArray.empty t227 0)] ?_;(with_reducible refine (impl_formOf.calls (hT_:=?tab1) k (rdOf ByteArray.empty t227 0) t231 t232 t233 t234 _ A4.out).mono ?_);(case tab1 => exact hT_.below (Up.Bx HB));rintro e w9 ⟨rfl,hb⟩;refine ⟨_,rfl,?_⟩;have n0_:=Up.VB HO229 hb;have n1_:=Up.KB BK226 hb;have n2_:=Aside0.mk (below_step (Up.Bx HB) hb);clear HO229 BK226 HB;have HO229:=n0_;have BK226:=n1_;have HB:=n2_;clear n0_ n1_ n2_;(try clear hb);(try clear hb2);(try clear hk);(try clear hi)) | ((with_reducible refine gate_dst (N:=5) rfl ?_);(try (refine gate_guard (by rfl) ?_;dsimp only));refine Up.bx 5 46 #[.string (⟨#[]⟩ : ByteArray),.int .i64 0,.int .i64 0] ?_;intro gb235 hg w10 hbox hb;have n0_:=Aside0.mk (Kd.V_below (Kd.V_elderB (Up.Vup HO229) gb235 (Nat.le_of_eq hg.symm)) hb);have n1_:=Up.KB BK226 hb;have n2_:=Aside0.mk (below_step (Up.Bx HB) hb);have n3_:=Aside0.mk (hbox);have n4_:=Up.gw hg HB;have n5_:=Up.gw hg HB;have n6_:=Up.nl hg BK226;have n7_:=Up.ng hg BK226;clear HO229 BK226 HB;have HO229:=n0_;have BK226:=n1_;have HB:=n2_;have BK235:=n3_;have GW235:=n4_;have GE235:=n5_;have NB226_235:=n6_;have NB235_226:=n7_;clear n0_ n1_ n2_ n3_ n4_ n5_ n6_ n7_ hb hbox hg;have hnb11:=NB235_226.out;have hnc11:=NB226_235.out;have hcz12_0:=Up.c0 BK235;have hcz12_1:=Up.c1 BK235;have hcz12_2:=Up.c2 BK235;have hfz12_0:=blk_frozen BK235.out 0;have hfz12_1:=blk_frozen BK235.out 1;have hfz12_2:=blk_frozen BK235.out 2))
  (try simp only [Act.put,List.setIfInBounds_toArray,List.set_cons_zero,List.set_cons_succ])
  go_cut [30] (fun v30 wc => ∃ (kq : Nat) (x30_4 : Bool),v30 = .bool x30_4 ∧ Aside0 (impl_InsRead.j0 kq t227 x30_4 = some (r1,r2,r3,r4)) ∧ Aside0 (kq ≤ k) ∧ Aside0 (Kd.V Kd.string 9 wc w.heap.size (fun k_ => k_ ≠ gb226 ∧ k_ ≠ gb235) (.slice (some ad230) t227.length co8) t227) ∧ Aside0 (wc.heap[gb226]? = some (.cells #[.string (⟨#[]⟩ : ByteArray),.int .i64 0,.int .i64 0] 26 (0,0))) ∧ Aside0 (wc.heap[gb235]? = some (.cells #[.string t231,.int .i64 t232,.int .i64 t233] 46 (0,0))) ∧ Aside0 (Below w.heap.size w wc))
  case first =>
   have H:=HC5.out
   clear HC5
   by_cases c13 : t234 = true
   ·subst c13
    have H1 : ((impl_insForm_many.f t231 t232 t233).bind fun t236 => (impl_InsRead.j0 k t227 ((t227.length : Int) != (wrap64 (1 + t236))))) = some (r1,r2,r3,r4):=by rw [if_pos rfl] at H;exact H
    clear H
    have H:=H1
    clear H1
    replace H:=Option.bind_eq_some_iff.mp H
    obtain ⟨t236,A140,H⟩:=H
    replace H : (impl_InsRead.j0 k t227 ((t227.length : Int) != (wrap64 (1 + t236)))) = some (r1,r2,r3,r4):=H
    have A14:=Aside0.mk A140
    clear A140
    have H':=Aside0.mk H
    clear H
    have hnb15:=NB235_226.out
    have hnc15:=NB226_235.out
    have hcz16_0:=Up.c0 BK235
    have hcz16_1:=Up.c1 BK235
    have hcz16_2:=Up.c2 BK235
    have hfz16_0:=blk_frozen BK235.out 0
    have hfz16_1:=blk_frozen BK235.out 1
    have hfz16_2:=blk_frozen BK235.out 2
    go_wp2_with (first | (go_at_call 48;(with_reducible refine (impl_insForm_many.calls t231 t232 t233 t236 _ A14.out).mono ?_);rintro e w17 ⟨rfl,hb⟩;have n0_:=Aside0.mk (Kd.V_below (by (with_reducible repeat (first | apply Kd.V_alloc | apply Kd.V_drewN | apply Kd.V_drew));exact (Kd.V_mono (Kd.V_far (p:=⟨gb235,2,none⟩) (Kd.V_far (p:=⟨gb235,1,none⟩) (Kd.V_far (p:=⟨gb235,0,none⟩) (Kd.V_mono HO229.out (fun k_ hk => (⟨hk,hk.2⟩ : _ ∧ k_ ≠ gb235))) (fun _ hk => hk.2) (.string t231)) (fun _ hk => hk.2) (.int .i64 t232)) (fun _ hk => hk.2) (.int .i64 t233)) (fun _ h_ => h_.1))) hb);have n1_:=Aside0.mk (blk_below (g:=gb226) (o:=.cells #[.string (⟨#[]⟩ : ByteArray),.int .i64 0,.int .i64 0] 26 (0,0)) (Up.Kx BK226) hb);have n2_:=Aside0.mk (blk_below (g:=gb235) (o:=.cells #[.string t231,.int .i64 t232,.int .i64 t233] 46 (0,0)) (Up.Kx BK235) hb);have n3_:=Aside0.mk (below_step (Up.Bx HB) hb);clear HO229 BK226 BK235 HB;have HO229:=n0_;have BK226:=n1_;have BK235:=n2_;have HB:=n3_;clear n0_ n1_ n2_ n3_;(try clear hb);(try clear hb2);(try clear hk);(try clear hi)))
    go_meet
    case rel => exact ⟨_,(((t227.length : Int) != (wrap64 (1 + t236)))),(by first | rfl | (simp;done) | (simp [*];done)),H',⟨by first | omega | exact Nat.le_refl _⟩,⟨Up.Vup HO229⟩,⟨by (with_reducible repeat (first | refine blk_drewN ?_ _ | refine blk_drew ?_ | refine blk_alloc ?_ _));exact BK226.out⟩,⟨by (with_reducible repeat (first | refine blk_drewN ?_ _ | refine blk_drew ?_ | refine blk_alloc ?_ _));exact BK235.out⟩,⟨Up.Bx HB⟩⟩
   ·replace c13:=Bool.eq_false_iff.mpr c13
    subst c13
    have H1 : (impl_InsRead.j0 k t227 true) = some (r1,r2,r3,r4):=by rw [if_neg (show ¬ (false = true) by decide)] at H;exact H
    clear H
    have H:=H1
    clear H1
    have H':=Aside0.mk H
    clear H
    go_wp2
    go_meet
    case rel => exact ⟨_,(true),(by first | rfl | (simp;done) | (simp [*];done)),H',⟨by first | omega | exact Nat.le_refl _⟩,⟨by (with_reducible repeat (first | apply Kd.V_alloc | apply Kd.V_drewN | apply Kd.V_drew));exact Kd.V_mono (Kd.V_far (p:=⟨gb235,2,none⟩) (Kd.V_far (p:=⟨gb235,1,none⟩) (Kd.V_far (p:=⟨gb235,0,none⟩) (Kd.V_mono HO229.out (fun k_ hk => (⟨hk,hk.2⟩ : _ ∧ k_ ≠ gb235))) (fun _ hk => hk.2) (.string t231)) (fun _ hk => hk.2) (.int .i64 t232)) (fun _ hk => hk.2) (.int .i64 t233)) (fun _ hk => ⟨hk.1.1,hk.1.2⟩)⟩,⟨by (with_reducible repeat (first | refine blk_drewN ?_ _ | refine blk_drew ?_ | refine blk_alloc ?_ _));refine blk_far ?_ NB226_235.out _;(with_reducible repeat (first | refine blk_drewN ?_ _ | refine blk_drew ?_ | refine blk_alloc ?_ _));refine blk_far ?_ NB226_235.out _;(with_reducible repeat (first | refine blk_drewN ?_ _ | refine blk_drew ?_ | refine blk_alloc ?_ _));refine blk_far ?_ NB226_235.out _;(with_reducible repeat (first | refine blk_drewN ?_ _ | refine blk_drew ?_ | refine blk_alloc ?_ _));exact BK226.out⟩,⟨by (with_reducible repeat (first | refine blk_drewN ?_ _ | refine blk_drew ?_ | refine blk_alloc ?_ _));refine blk_put (cs:=#[.string t231,.int .i64 t232,.int .i64 0]) ?_ 2 _ rfl;(with_reducible repeat (first | refine blk_drewN ?_ _ | refine blk_drew ?_ | refine blk_alloc ?_ _));refine blk_put (cs:=#[.string t231,.int .i64 0,.int .i64 0]) ?_ 1 _ rfl;(with_reducible repeat (first | refine blk_drewN ?_ _ | refine blk_drew ?_ | refine blk_alloc ?_ _));refine blk_put (cs:=#[.string (⟨#[]⟩ : ByteArray),.int .i64 0,.int .i64 0]) ?_ 0 _ rfl;(with_reducible repeat (first | refine blk_drewN ?_ _ | refine blk_drew ?_ | refine blk_alloc ?_ _));exact BK235.out⟩,⟨Up.Bx HB⟩⟩
  case rest =>
   clear HC5
   try clear c1
   try clear c2
   try clear p2
   try clear q2
   try clear hx2
   try clear qi2
   try clear c3
   try clear c3b0
   try clear c3b1
   try clear c4
   try clear p6
   try clear c11
   try clear c13
   try clear c15
   try clear hcz12_0
   try clear hcz12_1
   try clear hcz12_2
   try clear hcz16_0
   try clear hcz16_1
   try clear hcz16_2
   try clear hfz12_0
   try clear hfz12_1
   try clear hfz12_2
   try clear hfz16_0
   try clear hfz16_1
   try clear hfz16_2
   try clear hx230_0
   try clear p230
   try clear q230
   obtain ⟨kq,x30_4,rfl,HA,HJ4,HO_4,BK226,BK235,HB⟩:=hcut
   cases kq with
   | zero => exact absurd HA.out (by simp [impl_InsRead.j0])
   | succ kj4 =>
    have H:=HA.out
    clear HA
    simp only [impl_InsRead.j0] at H
    by_cases c18 : x30_4 = true
    ·subst c18
     have H1 : (some ((⟨#[]⟩ : ByteArray),0,0,false)) = some (r1,r2,r3,r4):=by rw [if_pos rfl] at H;exact H
     clear H
     have H:=H1
     clear H1
     simp only [Option.some.injEq,Prod.mk.injEq] at H
     obtain ⟨rfl,rfl,rfl,rfl⟩:=H
     have hnb19:=NB226_235.out
     have hnc19:=NB235_226.out
     have hcz20_0:=Up.c0 BK226
     have hcz20_1:=Up.c1 BK226
     have hcz20_2:=Up.c2 BK226
     have hfz20_0:=blk_frozen BK226.out 0
     have hfz20_1:=blk_frozen BK226.out 1
     have hfz20_2:=blk_frozen BK226.out 2
     go_wp2
     refine bodyPost_ret (results_ct rfl _ _ gb226 26 #[.string (⟨#[]⟩ : ByteArray),.int .i64 0,.int .i64 0] (0,0) _ rfl (Up.Kx BK226) Tryd.underlying26 rfl (by kernel_rfl)) rfl ?_
     exact Up.e1 (Up.Bx HB)
    ·replace c18:=Bool.eq_false_iff.mpr c18
     subst c18
     have H1 : (if 0 < (t227.length : Int) then (if 1 ≤ (t227.length : Int) then ((some (t227.drop 1 : List ByteArray)).bind fun y239 => (impl_InsRead.l0 kj4 y239 (y239.length : Int) 0 (rdOf ByteArray.empty t227 0) 0 0)) else (none)) else (none)) = some (r1,r2,r3,r4):=by rw [if_neg (show ¬ (false = true) by decide)] at H;exact H
     clear H
     have H:=H1
     clear H1
     by_cases c21 : 0 < (t227.length : Int)
     ·rw [if_pos c21] at H
      have c21b0 : decide (0 < (t227.length : Int)) = true:=decide_eq_true c21
      have c21b1 : decide (0 < t227.length) = true:=decide_eq_true (by omega)
      clear c21
      by_cases c22 : 1 ≤ (t227.length : Int)
      ·rw [if_pos c22] at H
       have c22b0:=eq_true c22
       have c22b1 : decide (1 ≤ (t227.length : Int)) = true:=decide_eq_true c22
       clear c22
       obtain ⟨y239,hy239⟩ : ∃ y_ : List ByteArray,y_ = (t227.drop 1):=⟨_,rfl⟩
       replace H : (impl_InsRead.l0 kj4 y239 (y239.length : Int) 0 (rdOf ByteArray.empty t227 0) 0 0) = some (r1,r2,r3,r4):=by first | (rw [hy239];with_reducible exact H) | (have H2_:=(Option.bind_some _ _).symm.trans H;rw [hy239];with_reducible exact H2_) | (have H2_:=(Option.bind_some _ _).symm.trans H;with_reducible exact H2_) | with_reducible exact H | (rw [hy239];exact H) | exact H
       have Ny239:=Aside0.mk hy239
       clear hy239
       have H':=Aside0.mk H
       clear H
       have p237 : 0 ≤ (0 : Int):=(by omega)
       have q237 : 0 < (t227.length : Int):=Up.od
       obtain ⟨ad237,e237,hx237_0⟩:=Kd.at_string (Kd.V_reads' HO_4.out).2.2 0 p237 q237
       obtain rfl : ad230 = ad237:=(by injection e237)
       have qi237 : (0 < t227.length) = True:=eq_true (by omega)
       (try rw [show ((0 : Int)).toNat = 0 from rfl] at hx237_0)
       (try rw [Addr.add_zero'] at hx237_0)
       replace p237:=eq_true p237
       replace q237:=eq_true q237
       go_wp2_with (first | ((with_reducible refine gate_dst (N:=7) rfl ?_);(try (refine gate_guard (by rfl) ?_;dsimp only));refine Up.bx 7 26 #[.string (⟨#[]⟩ : ByteArray),.int .i64 0,.int .i64 0] ?_;intro gb238 hg w23 hbox hb;have n0_:=Aside0.mk (Kd.V_below (Kd.V_elderB (Up.Vup HO_4) gb238 (Nat.le_of_eq hg.symm)) hb);have n1_:=Up.KB BK226 hb;have n2_:=Up.KB BK235 hb;have n3_:=Aside0.mk (below_step (Up.Bx HB) hb);have n4_:=Aside0.mk (hbox);have n5_:=Up.gw hg HB;have n6_:=Up.gw hg HB;have n7_:=Up.nl hg BK226;have n8_:=Up.ng hg BK226;have n9_:=Up.nl hg BK235;have n10_:=Up.ng hg BK235;clear HO_4 BK226 BK235 HB;have HO_4:=n0_;have BK226:=n1_;have BK235:=n2_;have HB:=n3_;have BK238:=n4_;have GW238:=n5_;have GE238:=n6_;have NB226_238:=n7_;have NB238_226:=n8_;have NB235_238:=n9_;have NB238_235:=n10_;clear n0_ n1_ n2_ n3_ n4_ n5_ n6_ n7_ n8_ n9_ n10_ hb hbox hg;have hnb24:=NB238_226.out;have hnc24:=NB226_238.out;have hnb25:=NB238_235.out;have hnc25:=NB235_238.out;have hcz26_0:=Up.c0 BK238;have hcz26_1:=Up.c1 BK238;have hcz26_2:=Up.c2 BK238;have hfz26_0:=blk_frozen BK238.out 0;have hfz26_1:=blk_frozen BK238.out 1;have hfz26_2:=blk_frozen BK238.out 2) | ((with_reducible refine gate_store (t:=26) (p:=7) rfl ?_);refine store_event (t:=26) (p:=7) (v:=?vo_w27) (w1:=(((w23.setCell ⟨gb238,0,none⟩ (.string (rdOf ByteArray.empty t227 0))).setCell ⟨gb238,1,none⟩ (.int .i64 0)).setCell ⟨gb238,2,none⟩ (.int .i64 0))) ?hg ?ho ?hn ?hr ?_;(case ho => rfl);(case hg => rfl);(case hn => rfl);(case hr => first | (go_simp;done) | (go_simp;rfl));intro w27 hw;have n0_ : Aside0 (Kd.V Kd.string 9 w27 w.heap.size (fun k_ => k_ ≠ gb226 ∧ k_ ≠ gb235 ∧ k_ ≠ gb238) (.slice (some ad230) t227.length co8) t227):=⟨(by rw [hw];exact (Up.Vq (Kd.V_mono (Kd.V_far (p:=⟨gb238,2,none⟩) (Kd.V_far (p:=⟨gb238,1,none⟩) (Kd.V_far (p:=⟨gb238,0,none⟩) (Kd.V_mono HO_4.out (fun k_ hk => (⟨hk,hk.2⟩ : _ ∧ k_ ≠ gb238))) (fun _ hk => hk.2) (.string (rdOf ByteArray.empty t227 0))) (fun _ hk => hk.2) (.int .i64 0)) (fun _ hk => hk.2) (.int .i64 0)) (fun _ hk => ⟨hk.1.1.1,⟨hk.1.1.2,hk.1.2⟩⟩))))⟩;have n1_ : Aside0 (w27.heap[gb226]? = some (.cells #[.string (⟨#[]⟩ : ByteArray),.int .i64 0,.int .i64 0] 26 (0,0))):=⟨(by rw [hw];exact (Up.Kx BK226))⟩;have n2_ : Aside0 (w27.heap[gb235]? = some (.cells #[.string t231,.int .i64 t232,.int .i64 t233] 46 (0,0))):=⟨(by rw [hw];exact (Up.Kx BK235))⟩;have n3_ : Aside0 (w27.heap[gb238]? = some (.cells #[.string (rdOf ByteArray.empty t227 0),.int .i64 0,.int .i64 0] 26 (0,0))):=⟨(by rw [hw];exact (Up.Kx BK238))⟩;have n4_ : Aside0 (Below w.heap.size w w27):=⟨(by rw [hw];exact (Up.Bx HB))⟩;clear hw HO_4 BK226 BK235 BK238 HB;have HO_4:=n0_;have BK226:=n1_;have BK235:=n2_;have BK238:=n3_;have HB:=n4_;clear n0_ n1_ n2_ n3_ n4_;have q28 : (1 : Int) ≤ ((t227.length : Int) : Int):=Up.od;obtain ⟨i028,hi028,_,hsz28,_⟩:=info_parts info9;have hroom28 : t227.length ≤ co8:=(Kd.V_reads' HO_4.out).2.1;have hC28 : Kd.F Kd.string _ _ (some ad230) t227.length t227:=(Kd.V_at (base:=w.heap.size) HO_4.out).2.2;have hcut28:=cut_from (P:=Tryd.prog) 30 9 .i64 Tryd.underlying30 hi028 1 hsz28 (some ad230) t227.length co8 1 (by omega) q28;have hr28:=Kd.F_cut (m:=(1 : Int).toNat) (c:=co8) hC28 (by omega) hroom28;obtain ⟨A28,hA28⟩ : ∃ A1,A1 = (if co8 = (1 : Int).toNat then (some ad230) else ((some ad230) : Option Addr).map (·.add ((1 : Int).toNat * 1))):=⟨_,rfl⟩;obtain ⟨c28,hc28⟩ : ∃ c1,c1 = co8 - (1 : Int).toNat:=⟨_,rfl⟩;have hy28 : y239.length = t227.length - (1 : Int).toNat:=(by rw [Ny239.out,List.length_drop] <;> omega);rw [show (t227).drop (1 : Int).toNat = y239 from Ny239.out.symm] at hr28;replace hr28 : Kd.F Kd.string _ _ A28 y239.length y239:=(by rw [hA28];exact hr28);rw [← hy28,← hA28,← hc28] at hcut28;have HO243:=Aside0.mk (show Kd.V Kd.string 9 _ w.heap.size _ (.slice A28 y239.length c28) y239 from Kd.V_mk (by rw [hy28,hc28];exact Nat.sub_le_sub_right hroom28 _) hr28);have HC243:=Aside0.mk (show y239.length ≤ c28 from by rw [hy28,hc28];exact Nat.sub_le_sub_right hroom28 _);clear hr28 hC28 hroom28 hi028 hsz28 hc28;have KY28:=Aside0.mk hy28;have KA28:=Aside0.mk hA28;clear hy28 hA28;replace q28:=eq_true q28))
       go_loopg [39] kj4 (fun kq v39 w' => ∃ (x39_2 : Int) (x227000_2 : ByteArray) (x227001_2 : Int) (x227002_2 : Int) (x239001_2 : Int) (x239002_2 : Int),v39 = .int .i64 x39_2 ∧ Aside0 (impl_InsRead.l0 kq y239 (y239.length : Int) x39_2 (rdOf ByteArray.empty t227 0) x239001_2 x239002_2 = some (r1,r2,r3,r4)) ∧ Aside0 (kq ≤ kj4) ∧ Aside0 (Kd.V Kd.string 9 w' w.heap.size (fun k_ => k_ ≠ gb226 ∧ k_ ≠ gb235 ∧ k_ ≠ gb238) (.slice A28 y239.length c28) y239) ∧ Aside0 (w'.heap[gb226]? = some (.cells #[.string x227000_2,.int .i64 x227001_2,.int .i64 x227002_2] 26 (0,0))) ∧ Aside0 (w'.heap[gb235]? = some (.cells #[.string t231,.int .i64 t232,.int .i64 t233] 46 (0,0))) ∧ Aside0 (w'.heap[gb238]? = some (.cells #[.string (rdOf ByteArray.empty t227 0),.int .i64 x239001_2,.int .i64 x239002_2] 26 (0,0))) ∧ Aside0 (Below w.heap.size w w'))
       case atStart => exact ⟨(0),((⟨#[]⟩ : ByteArray)),(0),(0),(0),(0),(by first | rfl | (simp;done) | (simp [*];done)),H',⟨Nat.le_refl _⟩,⟨Up.Vup HO243⟩,⟨by (with_reducible repeat (first | refine blk_drewN ?_ _ | refine blk_drew ?_ | refine blk_alloc ?_ _));exact BK226.out⟩,⟨by (with_reducible repeat (first | refine blk_drewN ?_ _ | refine blk_drew ?_ | refine blk_alloc ?_ _));exact BK235.out⟩,⟨by (with_reducible repeat (first | refine blk_drewN ?_ _ | refine blk_drew ?_ | refine blk_alloc ?_ _));exact BK238.out⟩,⟨Up.Bx HB⟩⟩
       case round =>
        clear H'
        try clear c1
        try clear c2
        try clear p2
        try clear q2
        try clear hx2
        try clear qi2
        try clear c3
        try clear c3b0
        try clear c3b1
        try clear c4
        try clear p6
        try clear c11
        try clear c13
        try clear c15
        try clear c18
        try clear c19
        try clear c21
        try clear c21b0
        try clear c21b1
        try clear c22
        try clear c22b0
        try clear c22b1
        try clear p23
        try clear q23
        try clear hx23
        try clear qi23
        try clear c24
        try clear c25
        try clear c26
        try clear c28
        try clear q28
        try clear hcz12_0
        try clear hcz12_1
        try clear hcz12_2
        try clear hcz16_0
        try clear hcz16_1
        try clear hcz16_2
        try clear hcz20_0
        try clear hcz20_1
        try clear hcz20_2
        try clear hcz26_0
        try clear hcz26_1
        try clear hcz26_2
        try clear hfz12_0
        try clear hfz12_1
        try clear hfz12_2
        try clear hfz16_0
        try clear hfz16_1
        try clear hfz16_2
        try clear hfz20_0
        try clear hfz20_1
        try clear hfz20_2
        try clear hfz26_0
        try clear hfz26_1
        try clear hfz26_2
        try clear hx230_0
        try clear hx237_0
        try clear p2
        try clear p230
        try clear p237
        try clear p6
        try clear q2
        try clear q230
        try clear q237
        try clear q28
        obtain ⟨x39_2,x227000_2,x227001_2,x227002_2,x239001_2,x239002_2,rfl,HA,HK2,HO_37,BK226,BK235,BK238,HB⟩:=hrel
        cases gk with
        | zero => exact absurd HA.out (by simp [impl_InsRead.l0])
        | succ k2 =>
         have H:=HA.out
         clear HA
         simp only [impl_InsRead.l0] at H
         by_cases c29 : x39_2 < (y239.length : Int)
         ·rw [if_pos c29] at H
          have c29b0 : decide (x39_2 < (y239.length : Int)) = true:=decide_eq_true c29
          clear c29
          by_cases c30 : 0 ≤ x39_2
          ·rw [if_pos c30] at H
           have c30b0 : decide (0 ≤ x39_2) = true:=decide_eq_true c30
           clear c30
           by_cases c31 : x39_2 < (y239.length : Int)
           ·rw [if_pos c31] at H
            have c31b0 : decide (x39_2 < (y239.length : Int)) = true:=decide_eq_true c31
            clear c31
            replace H:=Option.bind_eq_some_iff.mp H
            obtain ⟨⟨t246,t247⟩,A320,H⟩:=H
            replace H : (if t247 = true then (if x39_2 = 0 then (impl_InsRead.l0 k2 y239 (y239.length : Int) (wrap64 (x39_2 + 1)) (rdOf ByteArray.empty t227 0) t246 x239002_2) else (impl_InsRead.l0 k2 y239 (y239.length : Int) (wrap64 (x39_2 + 1)) (rdOf ByteArray.empty t227 0) x239001_2 t246)) else (some ((⟨#[]⟩ : ByteArray),0,0,false))) = some (r1,r2,r3,r4):=H
            have A32:=Aside0.mk A320
            clear A320
            by_cases c33 : t247 = true
            ·subst c33
             have H1 : (if x39_2 = 0 then (impl_InsRead.l0 k2 y239 (y239.length : Int) (wrap64 (x39_2 + 1)) (rdOf ByteArray.empty t227 0) t246 x239002_2) else (impl_InsRead.l0 k2 y239 (y239.length : Int) (wrap64 (x39_2 + 1)) (rdOf ByteArray.empty t227 0) x239001_2 t246)) = some (r1,r2,r3,r4):=by rw [if_pos rfl] at H;exact H
             clear H
             have H:=H1
             clear H1
             by_cases c34 : x39_2 = 0
             ·rw [if_pos c34] at H
              have c34b0 : (x39_2 == 0) = true:=beq_iff_eq.mpr c34
              have c34b1 : (x39_2 != 0) = false:=bne_eq_false_iff_eq.mpr c34
              clear c34
              have H':=Aside0.mk H
              clear H
              have p245 : 0 ≤ (x39_2 : Int):=Up.od
              have q245 : x39_2 < (y239.length : Int):=Up.od
              obtain ⟨ad245,e245,hx245_0⟩:=Kd.at_string (Kd.V_reads' HO_37.out).2.2 x39_2 p245 q245
              cases e245
              replace p245:=eq_true p245
              replace q245:=eq_true q245
              go_wp2_with (first | ((with_reducible refine gate_callee (f:=49) rfl ?_);refine Up.gl (some 46) Tryd.func49 #[.string (rdOf ByteArray.empty y239 x39_2)] ?_;(with_reducible refine (impl_decimal.calls k2 (rdOf ByteArray.empty y239 x39_2) t246 true _ A32.out).mono ?_);rintro e w' ⟨rfl,⟨nd,rfl⟩⟩;refine ⟨_,rfl,?_⟩;(try (rw [drewN_self wr];generalize hq_ : World.drewN wr _ = wr;have n0_ : Aside0 (Kd.V Kd.string 9 wr w.heap.size (fun k_ => k_ ≠ gb226 ∧ k_ ≠ gb235 ∧ k_ ≠ gb238) (.slice (some ad245) y239.length c28) y239):=⟨by rw [← hq_];exact (Up.Vup HO_37)⟩;have n1_ : Aside0 (wr.heap[gb226]? = some (.cells #[.string x227000_2,.int .i64 x227001_2,.int .i64 x227002_2] 26 (0,0))):=⟨by rw [← hq_];exact (Up.Kup BK226)⟩;have n2_ : Aside0 (wr.heap[gb235]? = some (.cells #[.string t231,.int .i64 t232,.int .i64 t233] 46 (0,0))):=⟨by rw [← hq_];exact (Up.Kup BK235)⟩;have n3_ : Aside0 (wr.heap[gb238]? = some (.cells #[.string (rdOf ByteArray.empty t227 0),.int .i64 x239001_2,.int .i64 x239002_2] 26 (0,0))):=⟨by rw [← hq_];exact (Up.Kup BK238)⟩;have n4_ : Aside0 (Below w.heap.size w wr):=⟨by rw [← hq_];exact (Up.Bx HB)⟩;clear HO_37 BK226 BK235 BK238 HB hq_;have HO_37:=n0_;have BK226:=n1_;have BK235:=n2_;have BK238:=n3_;have HB:=n4_;clear n0_ n1_ n2_ n3_ n4_));have hnb35:=NB238_226.out;have hnc35:=NB226_238.out;have hnb36:=NB238_235.out;have hnc36:=NB235_238.out;have hcz37_0:=Up.c0 BK238;have hcz37_1:=Up.c1 BK238;have hcz37_2:=Up.c2 BK238;have hfz37_0:=blk_frozen BK238.out 0;have hfz37_1:=blk_frozen BK238.out 1;have hfz37_2:=blk_frozen BK238.out 2))
              go_roundg k2
              case measure => have:=HJ4.out;have:=HK2.out;omega
              case rel => exact ⟨(wrap64 (x39_2 + 1)),(x227000_2),(x227001_2),(x227002_2),(t246),(x239002_2),(by first | rfl | (simp;done) | (simp [*];done)),H',⟨by have:=HJ4.out;have:=HK2.out;omega⟩,⟨by (with_reducible repeat (first | apply Kd.V_alloc | apply Kd.V_drewN | apply Kd.V_drew));exact Kd.V_mono (Kd.V_far (p:=⟨gb238,1,none⟩) (Kd.V_mono HO_37.out (fun k_ hk => (⟨hk,hk.2.2⟩ : _ ∧ k_ ≠ gb238))) (fun _ hk => hk.2) (.int .i64 t246)) (fun _ hk => ⟨hk.1.1,⟨hk.1.2.1,hk.1.2.2⟩⟩)⟩,⟨by (with_reducible repeat (first | refine blk_drewN ?_ _ | refine blk_drew ?_ | refine blk_alloc ?_ _));refine blk_far ?_ NB226_238.out _;(with_reducible repeat (first | refine blk_drewN ?_ _ | refine blk_drew ?_ | refine blk_alloc ?_ _));exact BK226.out⟩,⟨by (with_reducible repeat (first | refine blk_drewN ?_ _ | refine blk_drew ?_ | refine blk_alloc ?_ _));refine blk_far ?_ NB235_238.out _;(with_reducible repeat (first | refine blk_drewN ?_ _ | refine blk_drew ?_ | refine blk_alloc ?_ _));exact BK235.out⟩,⟨by (with_reducible repeat (first | refine blk_drewN ?_ _ | refine blk_drew ?_ | refine blk_alloc ?_ _));refine blk_put (cs:=#[.string (rdOf ByteArray.empty t227 0),.int .i64 x239001_2,.int .i64 x239002_2]) ?_ 1 _ rfl;(with_reducible repeat (first | refine blk_drewN ?_ _ | refine blk_drew ?_ | refine blk_alloc ?_ _));exact BK238.out⟩,⟨Up.Bx HB⟩⟩
             ·rw [if_neg c34] at H
              have c34b0 : (x39_2 == 0) = false:=beq_eq_false_iff_ne.mpr c34
              have c34b1 : (x39_2 != 0) = true:=bne_iff_ne.mpr c34
              have H':=Aside0.mk H
              clear H
              have p245 : 0 ≤ (x39_2 : Int):=Up.od
              have q245 : x39_2 < (y239.length : Int):=Up.od
              obtain ⟨ad245,e245,hx245_0⟩:=Kd.at_string (Kd.V_reads' HO_37.out).2.2 x39_2 p245 q245
              cases e245
              replace p245:=eq_true p245
              replace q245:=eq_true q245
              go_wp2_with (first | ((with_reducible refine gate_callee (f:=49) rfl ?_);refine Up.gl (some 46) Tryd.func49 #[.string (rdOf ByteArray.empty y239 x39_2)] ?_;(with_reducible refine (impl_decimal.calls k2 (rdOf ByteArray.empty y239 x39_2) t246 true _ A32.out).mono ?_);rintro e w' ⟨rfl,⟨nd,rfl⟩⟩;refine ⟨_,rfl,?_⟩;(try (rw [drewN_self wr];generalize hq_ : World.drewN wr _ = wr;have n0_ : Aside0 (Kd.V Kd.string 9 wr w.heap.size (fun k_ => k_ ≠ gb226 ∧ k_ ≠ gb235 ∧ k_ ≠ gb238) (.slice (some ad245) y239.length c28) y239):=⟨by rw [← hq_];exact (Up.Vup HO_37)⟩;have n1_ : Aside0 (wr.heap[gb226]? = some (.cells #[.string x227000_2,.int .i64 x227001_2,.int .i64 x227002_2] 26 (0,0))):=⟨by rw [← hq_];exact (Up.Kup BK226)⟩;have n2_ : Aside0 (wr.heap[gb235]? = some (.cells #[.string t231,.int .i64 t232,.int .i64 t233] 46 (0,0))):=⟨by rw [← hq_];exact (Up.Kup BK235)⟩;have n3_ : Aside0 (wr.heap[gb238]? = some (.cells #[.string (rdOf ByteArray.empty t227 0),.int .i64 x239001_2,.int .i64 x239002_2] 26 (0,0))):=⟨by rw [← hq_];exact (Up.Kup BK238)⟩;have n4_ : Aside0 (Below w.heap.size w wr):=⟨by rw [← hq_];exact (Up.Bx HB)⟩;clear HO_37 BK226 BK235 BK238 HB hq_;have HO_37:=n0_;have BK226:=n1_;have BK235:=n2_;have BK238:=n3_;have HB:=n4_;clear n0_ n1_ n2_ n3_ n4_));have hnb38:=NB238_226.out;have hnc38:=NB226_238.out;have hnb39:=NB238_235.out;have hnc39:=NB235_238.out;have hcz40_0:=Up.c0 BK238;have hcz40_1:=Up.c1 BK238;have hcz40_2:=Up.c2 BK238;have hfz40_0:=blk_frozen BK238.out 0;have hfz40_1:=blk_frozen BK238.out 1;have hfz40_2:=blk_frozen BK238.out 2))
              go_roundg k2
              case measure => have:=HJ4.out;have:=HK2.out;omega
              case rel => exact ⟨(wrap64 (x39_2 + 1)),(x227000_2),(x227001_2),(x227002_2),(x239001_2),(t246),(by first | rfl | (simp;done) | (simp [*];done)),H',⟨by have:=HJ4.out;have:=HK2.out;omega⟩,⟨by (with_reducible repeat (first | apply Kd.V_alloc | apply Kd.V_drewN | apply Kd.V_drew));exact Kd.V_mono (Kd.V_far (p:=⟨gb238,2,none⟩) (Kd.V_mono HO_37.out (fun k_ hk => (⟨hk,hk.2.2⟩ : _ ∧ k_ ≠ gb238))) (fun _ hk => hk.2) (.int .i64 t246)) (fun _ hk => ⟨hk.1.1,⟨hk.1.2.1,hk.1.2.2⟩⟩)⟩,⟨by (with_reducible repeat (first | refine blk_drewN ?_ _ | refine blk_drew ?_ | refine blk_alloc ?_ _));refine blk_far ?_ NB226_238.out _;(with_reducible repeat (first | refine blk_drewN ?_ _ | refine blk_drew ?_ | refine blk_alloc ?_ _));exact BK226.out⟩,⟨by (with_reducible repeat (first | refine blk_drewN ?_ _ | refine blk_drew ?_ | refine blk_alloc ?_ _));refine blk_far ?_ NB235_238.out _;(with_reducible repeat (first | refine blk_drewN ?_ _ | refine blk_drew ?_ | refine blk_alloc ?_ _));exact BK235.out⟩,⟨by (with_reducible repeat (first | refine blk_drewN ?_ _ | refine blk_drew ?_ | refine blk_alloc ?_ _));refine blk_put (cs:=#[.string (rdOf ByteArray.empty t227 0),.int .i64 x239001_2,.int .i64 x239002_2]) ?_ 2 _ rfl;(with_reducible repeat (first | refine blk_drewN ?_ _ | refine blk_drew ?_ | refine blk_alloc ?_ _));exact BK238.out⟩,⟨Up.Bx HB⟩⟩
            ·replace c33:=Bool.eq_false_iff.mpr c33
             subst c33
             have H1 : (some ((⟨#[]⟩ : ByteArray),0,0,false)) = some (r1,r2,r3,r4):=by rw [if_neg (show ¬ (false = true) by decide)] at H;exact H
             clear H
             have H:=H1
             clear H1
             simp only [Option.some.injEq,Prod.mk.injEq] at H
             obtain ⟨rfl,rfl,rfl,rfl⟩:=H
             have p245 : 0 ≤ (x39_2 : Int):=Up.od
             have q245 : x39_2 < (y239.length : Int):=Up.od
             obtain ⟨ad245,e245,hx245_0⟩:=Kd.at_string (Kd.V_reads' HO_37.out).2.2 x39_2 p245 q245
             cases e245
             replace p245:=eq_true p245
             replace q245:=eq_true q245
             go_wp2_with (first | ((with_reducible refine gate_callee (f:=49) rfl ?_);refine Up.gl (some 46) Tryd.func49 #[.string (rdOf ByteArray.empty y239 x39_2)] ?_;(with_reducible refine (impl_decimal.calls k2 (rdOf ByteArray.empty y239 x39_2) t246 false _ A32.out).mono ?_);rintro e w' ⟨rfl,⟨nd,rfl⟩⟩;refine ⟨_,rfl,?_⟩;(try (rw [drewN_self wr];generalize hq_ : World.drewN wr _ = wr;have n0_ : Aside0 (Kd.V Kd.string 9 wr w.heap.size (fun k_ => k_ ≠ gb226 ∧ k_ ≠ gb235 ∧ k_ ≠ gb238) (.slice (some ad245) y239.length c28) y239):=⟨by rw [← hq_];exact (Up.Vup HO_37)⟩;have n1_ : Aside0 (wr.heap[gb226]? = some (.cells #[.string x227000_2,.int .i64 x227001_2,.int .i64 x227002_2] 26 (0,0))):=⟨by rw [← hq_];exact (Up.Kup BK226)⟩;have n2_ : Aside0 (wr.heap[gb235]? = some (.cells #[.string t231,.int .i64 t232,.int .i64 t233] 46 (0,0))):=⟨by rw [← hq_];exact (Up.Kup BK235)⟩;have n3_ : Aside0 (wr.heap[gb238]? = some (.cells #[.string (rdOf ByteArray.empty t227 0),.int .i64 x239001_2,.int .i64 x239002_2] 26 (0,0))):=⟨by rw [← hq_];exact (Up.Kup BK238)⟩;have n4_ : Aside0 (Below w.heap.size w wr):=⟨by rw [← hq_];exact (Up.Bx HB)⟩;clear HO_37 BK226 BK235 BK238 HB hq_;have HO_37:=n0_;have BK226:=n1_;have BK235:=n2_;have BK238:=n3_;have HB:=n4_;clear n0_ n1_ n2_ n3_ n4_));have hnb41:=NB226_235.out;have hnc41:=NB235_226.out;have hnb42:=NB226_238.out;have hnc42:=NB238_226.out;have hcz43_0:=Up.c0 BK226;have hcz43_1:=Up.c1 BK226;have hcz43_2:=Up.c2 BK226;have hfz43_0:=blk_frozen BK226.out 0;have hfz43_1:=blk_frozen BK226.out 1;have hfz43_2:=blk_frozen BK226.out 2))
             refine bodyPost_ret (results_ct rfl _ _ gb226 26 #[.string (⟨#[]⟩ : ByteArray),.int .i64 0,.int .i64 0] (0,0) _ rfl (Up.Kx BK226) Tryd.underlying26 rfl (by kernel_rfl)) rfl ?_
             exact Up.e1 (Up.Bx HB)
           ·rw [if_neg c31] at H
            exact absurd H (by simp)
          ·rw [if_neg c30] at H
           exact absurd H (by simp)
         ·rw [if_neg c29] at H
          have c29b0 : decide (x39_2 < (y239.length : Int)) = false:=decide_eq_false c29
          clear c29
          replace H:=Option.bind_eq_some_iff.mp H
          obtain ⟨t244,A440,H⟩:=H
          replace H : (if t244 = true then (some ((rdOf ByteArray.empty t227 0),x239001_2,x239002_2,true)) else (some ((⟨#[]⟩ : ByteArray),0,0,false))) = some (r1,r2,r3,r4):=H
          have A44:=Aside0.mk A440
          clear A440
          by_cases c45 : t244 = true
          ·subst c45
           have H1 : (some ((rdOf ByteArray.empty t227 0),x239001_2,x239002_2,true)) = some (r1,r2,r3,r4):=by rw [if_pos rfl] at H;exact H
           clear H
           have H:=H1
           clear H1
           simp only [Option.some.injEq,Prod.mk.injEq] at H
           obtain ⟨rfl,rfl,rfl,rfl⟩:=H
           have hnb46:=NB238_226.out
           have hnc46:=NB226_238.out
           have hnb47:=NB238_235.out
           have hnc47:=NB235_238.out
           have hcz48_0:=Up.c0 BK238
           have hcz48_1:=Up.c1 BK238
           have hcz48_2:=Up.c2 BK238
           have hfz48_0:=blk_frozen BK238.out 0
           have hfz48_1:=blk_frozen BK238.out 1
           have hfz48_2:=blk_frozen BK238.out 2
           go_wp2_with (first | ((with_reducible refine gate_callee (f:=14) rfl ?_);refine Up.gl (some 60) Tryd.func14 #[.agg #[.string (rdOf ByteArray.empty t227 0),.int .i64 x239001_2,.int .i64 x239002_2]] ?_;(with_reducible refine (impl_InsOk.calls (hT_:=?tab1) k2 (rdOf ByteArray.empty t227 0) x239001_2 x239002_2 true _ A44.out).mono ?_);(case tab1 => exact hT_.below (Up.Bx HB));rintro e w49 ⟨rfl,hb⟩;refine ⟨_,rfl,?_⟩;have n0_:=Up.VB HO_37 hb;have n1_:=Up.KB BK226 hb;have n2_:=Up.KB BK235 hb;have n3_:=Up.KB BK238 hb;have n4_:=Aside0.mk (below_step (Up.Bx HB) hb);clear HO_37 BK226 BK235 BK238 HB;have HO_37:=n0_;have BK226:=n1_;have BK235:=n2_;have BK238:=n3_;have HB:=n4_;clear n0_ n1_ n2_ n3_ n4_;(try clear hb);(try clear hb2);(try clear hk);(try clear hi);have hcz50_0:=Up.c0 BK238;have hcz50_1:=Up.c1 BK238;have hcz50_2:=Up.c2 BK238;have hfz50_0:=blk_frozen BK238.out 0;have hfz50_1:=blk_frozen BK238.out 1;have hfz50_2:=blk_frozen BK238.out 2;have hnb51:=NB226_235.out;have hnc51:=NB235_226.out;have hcz52_0:=Up.c0 BK226;have hcz52_1:=Up.c1 BK226;have hcz52_2:=Up.c2 BK226;have hfz52_0:=blk_frozen BK226.out 0;have hfz52_1:=blk_frozen BK226.out 1;have hfz52_2:=blk_frozen BK226.out 2))
           refine bodyPost_ret (results_ct rfl _ _ gb226 26 #[.string (rdOf ByteArray.empty t227 0),.int .i64 x239001_2,.int .i64 x239002_2] (0,0) _ rfl (Up.Kx BK226) Tryd.underlying26 rfl (by kernel_rfl)) rfl ?_
           exact Up.e1 (Up.Bx HB)
          ·replace c45:=Bool.eq_false_iff.mpr c45
           subst c45
           have H1 : (some ((⟨#[]⟩ : ByteArray),0,0,false)) = some (r1,r2,r3,r4):=by rw [if_neg (show ¬ (false = true) by decide)] at H;exact H
           clear H
           have H:=H1
           clear H1
           simp only [Option.some.injEq,Prod.mk.injEq] at H
           obtain ⟨rfl,rfl,rfl,rfl⟩:=H
           have hnb53:=NB238_226.out
           have hnc53:=NB226_238.out
           have hnb54:=NB238_235.out
           have hnc54:=NB235_238.out
           have hcz55_0:=Up.c0 BK238
           have hcz55_1:=Up.c1 BK238
           have hcz55_2:=Up.c2 BK238
           have hfz55_0:=blk_frozen BK238.out 0
           have hfz55_1:=blk_frozen BK238.out 1
           have hfz55_2:=blk_frozen BK238.out 2
           go_wp2_with (first | ((with_reducible refine gate_callee (f:=14) rfl ?_);refine Up.gl (some 60) Tryd.func14 #[.agg #[.string (rdOf ByteArray.empty t227 0),.int .i64 x239001_2,.int .i64 x239002_2]] ?_;(with_reducible refine (impl_InsOk.calls (hT_:=?tab1) k2 (rdOf ByteArray.empty t227 0) x239001_2 x239002_2 false _ A44.out).mono ?_);(case tab1 => exact hT_.below (Up.Bx HB));rintro e w56 ⟨rfl,hb⟩;refine ⟨_,rfl,?_⟩;have n0_:=Up.VB HO_37 hb;have n1_:=Up.KB BK226 hb;have n2_:=Up.KB BK235 hb;have n3_:=Up.KB BK238 hb;have n4_:=Aside0.mk (below_step (Up.Bx HB) hb);clear HO_37 BK226 BK235 BK238 HB;have HO_37:=n0_;have BK226:=n1_;have BK235:=n2_;have BK238:=n3_;have HB:=n4_;clear n0_ n1_ n2_ n3_ n4_;(try clear hb);(try clear hb2);(try clear hk);(try clear hi);have hnb57:=NB226_235.out;have hnc57:=NB235_226.out;have hcz58_0:=Up.c0 BK226;have hcz58_1:=Up.c1 BK226;have hcz58_2:=Up.c2 BK226;have hfz58_0:=blk_frozen BK226.out 0;have hfz58_1:=blk_frozen BK226.out 1;have hfz58_2:=blk_frozen BK226.out 2))
           refine bodyPost_ret (results_ct rfl _ _ gb226 26 #[.string (⟨#[]⟩ : ByteArray),.int .i64 0,.int .i64 0] (0,0) _ rfl (Up.Kx BK226) Tryd.underlying26 rfl (by kernel_rfl)) rfl ?_
           exact Up.e1 (Up.Bx HB)
      ·rw [if_neg c22] at H
       exact absurd H (by simp)
     ·rw [if_neg c21] at H
      exact absurd H (by simp)
 ·rw [if_neg c3] at H
  exact absurd H (by simp)

/-- A state of type 70 at block g of W; what its slices lead to came in by w0. -/
def IsS70 (w0 W : World) (g : Nat) (f0 : List Int) (f1 : Int) : Prop:=∃ A0 c0,W.heap[g]? = some (.cells #[.slice A0 f0.length c0,.int .i64 f1] 70 (0,0)) ∧ w0.heap.size ≤ g ∧ Kd.C (Kd.int .u8) w0 A0 f0.length f0
theorem IsS70.grown {w0 W : World} {g : Nat} {f0 : List Int} {f1 : Int} {W1 : World} {row : Option Nat} (h : IsS70 w0 W g f0 f1) (hw : W.grownBy W1 row) (hne : some g ≠ row) : IsS70 w0 W1 g f0 f1:=by
 obtain ⟨A0,c0,hb,hg,hr0⟩:=h
 exact ⟨A0,c0,blk_grown hb hw hne,hg,hr0⟩
theorem IsS70.own_neN {w0 W : World} {g : Nat} {f0 : List Int} {f1 : Int} {α : Type} {d : Kd α} {e : Nat} {base : Nat} {ok : Nat → Prop} {v : Value} {xs : List α} (h : IsS70 w0 W g f0 f1) (ho : Kd.N d e W base ok v xs) (ht : e ≠ 70) : some g ≠ v.ownBlock:=by
 obtain ⟨A0,c0,hb,hg,hr0⟩:=h
 exact Kd.N_ne ho hb ht
theorem IsS70.fresh {w0 W : World} {g : Nat} {f0 : List Int} {f1 : Int} (h : IsS70 w0 W g f0 f1) : ∀ k,W.heap.size ≤ k → k ≠ g:=by
 obtain ⟨A0,c0,hb,hg,hr0⟩:=h
 exact Kd.freshB hb
theorem IsS70.kept {w0 W : World} {g : Nat} {f0 : List Int} {f1 : Int} {W1 : World} {S : Nat → Prop} (h : IsS70 w0 W g f0 f1) (hk : Kept W W1 S) (hne : ¬ S g) : IsS70 w0 W1 g f0 f1:=by
 obtain ⟨A0,c0,hb,hg,hr0⟩:=h
 exact ⟨A0,c0,blk_kept hb hk hne,hg,hr0⟩
theorem IsS70.below {w0 W : World} {g : Nat} {f0 : List Int} {f1 : Int} {W1 : World} (h : IsS70 w0 W g f0 f1) (hw : Below W.heap.size W W1) : IsS70 w0 W1 g f0 f1:=h.grown (grown_of_below hw none) (by simp)
theorem IsS70.alloc {w0 W : World} {g : Nat} {f0 : List Int} {f1 : Int} (h : IsS70 w0 W g f0 f1) (o : Obj) : IsS70 w0 (W.alloc o) g f0 f1:=h.below (below_alloc (Below.refl _ _) o)
theorem IsS70.drewN {w0 W : World} {g : Nat} {f0 : List Int} {f1 : Int} (h : IsS70 w0 W g f0 f1) (m : Nat) : IsS70 w0 (W.drewN m) g f0 f1:=h
theorem IsS70.drew {w0 W : World} {g : Nat} {f0 : List Int} {f1 : Int} (h : IsS70 w0 W g f0 f1) : IsS70 w0 W.drew g f0 f1:=h
theorem IsS70.at_ {w0 W : World} {g : Nat} {f0 : List Int} {f1 : Int} {w' : World} {m : Nat} (hq : W.drewN m = w') (h : IsS70 w0 W g f0 f1) : IsS70 w0 w' g f0 f1:=by subst hq;exact IsS70.drewN h m
theorem IsS70.apart {w0 W : World} {g : Nat} {f0 : List Int} {f1 : Int} {α : Type} {d : Kd α} {e : Nat} {base : Nat} {ok : Nat → Prop} {v : Value} {xs : List α} (h : IsS70 w0 W g f0 f1) (ho : d.R e W base ok v xs) (ht : ∀ q,q ∈ e :: d.E → q ≠ 70) : d.R e W base (fun k => ok k ∧ k ≠ g) v xs:=by
 obtain ⟨A0,c0,hb,hg,hr0⟩:=h
 exact Kd.R_types ho hb ht
theorem IsS70.own_ne {w0 W : World} {g : Nat} {f0 : List Int} {f1 : Int} {α : Type} {d : Kd α} {e : Nat} {base : Nat} {ok : Nat → Prop} {v : Value} {xs : List α} (h : IsS70 w0 W g f0 f1) (ho : d.R e W base ok v xs) (ht : e ≠ 70) : some g ≠ v.ownBlock:=by
 obtain ⟨A0,c0,hb,hg,hr0⟩:=h
 exact Kd.R_ne ho hb ht
theorem IsS70.apartQ {w0 W : World} {g : Nat} {f0 : List Int} {f1 : Int} {α : Type} {d : Kd α} {e : Nat} {base : Nat} {ok : Nat → Prop} {v : Value} {xs : List α} (h : IsS70 w0 W g f0 f1) (ho : d.Q e W base ok v xs) (ht : ∀ q,q ∈ e :: d.E → q ≠ 70) : d.Q e W base (fun k => ok k ∧ k ≠ g) v xs:=by
 obtain ⟨A0,c0,hb,hg,hr0⟩:=h
 exact Kd.Q_types ho hb ht
theorem IsS70.own_neQ {w0 W : World} {g : Nat} {f0 : List Int} {f1 : Int} {α : Type} {d : Kd α} {e : Nat} {base : Nat} {ok : Nat → Prop} {v : Value} {xs : List α} (h : IsS70 w0 W g f0 f1) (ho : d.Q e W base ok v xs) (ht : e ≠ 70) : some g ≠ v.ownBlock:=by
 obtain ⟨A0,c0,hb,hg,hr0⟩:=h
 exact Kd.Q_ne ho hb ht
theorem IsS70.apartS {w0 W : World} {g : Nat} {f0 : List Int} {f1 : Int} {α : Type} {d : Kd α} {e : Nat} {base : Nat} {ok : Nat → Prop} {v : Value} {xs : List α} (h : IsS70 w0 W g f0 f1) (ho : d.S e W base ok v xs) (ht : ∀ q,q ∈ e :: d.E → q ≠ 70) : d.S e W base (fun k => ok k ∧ k ≠ g) v xs:=by
 obtain ⟨A0,c0,hb,hg,hr0⟩:=h
 exact Kd.S_types ho hb ht
theorem IsS70.own_neS {w0 W : World} {g : Nat} {f0 : List Int} {f1 : Int} {α : Type} {d : Kd α} {e : Nat} {base : Nat} {ok : Nat → Prop} {v : Value} {xs : List α} (h : IsS70 w0 W g f0 f1) (ho : d.S e W base ok v xs) (ht : e ≠ 70) : some g ≠ v.ownBlock:=by
 obtain ⟨A0,c0,hb,hg,hr0⟩:=h
 exact Kd.S_ne ho hb ht
theorem IsS70.lt {w0 W : World} {g : Nat} {f0 : List Int} {f1 : Int} (h : IsS70 w0 W g f0 f1) : g < W.heap.size:=by
 obtain ⟨A0,c0,hb,hg,hr0⟩:=h
 exact blk_lt hb
theorem IsS70.ge {w0 W : World} {g : Nat} {f0 : List Int} {f1 : Int} (h : IsS70 w0 W g f0 f1) : w0.heap.size ≤ g:=by
 obtain ⟨A0,c0,hb,hg,hr0⟩:=h
 exact hg
theorem IsS70.ne_blk {w0 W : World} {g : Nat} {f0 : List Int} {f1 : Int} {a : Nat} {cs : Array Value} {t : TypeId} {fr : Nat × Nat} (h : IsS70 w0 W g f0 f1) (hb2 : W.heap[a]? = some (.cells cs t fr)) (ht : t ≠ 70) : g ≠ a:=by
 obtain ⟨A0,c0,hb,hg,hr0⟩:=h
 rintro rfl
 rw [hb] at hb2
 injection hb2 with hb2
 injection hb2 with _ ht2
 exact ht ht2.symm
theorem IsS70.far {w0 W : World} {g : Nat} {f0 : List Int} {f1 : Int} {p : Addr} (h : IsS70 w0 W g f0 f1) (hne : g ≠ p.block) (u : Value) : IsS70 w0 (W.setCell p u) g f0 f1:=by
 obtain ⟨A0,c0,hb,hg,hr0⟩:=h
 exact ⟨A0,c0,blk_far hb hne u,hg,hr0⟩
theorem cellS70_0 {W : World} {g : Nat} {A0 : Option Addr} {c0 : Nat} {f0 : List Int} {f1 : Int} (h : W.heap[g]? = some (.cells #[.slice A0 f0.length c0,.int .i64 f1] 70 (0,0))) : W.cell? ⟨g,0,none⟩ = some (.slice A0 f0.length c0):=(blk_cell h 0).trans rfl
theorem cellS70_1 {W : World} {g : Nat} {A0 : Option Addr} {c0 : Nat} {f0 : List Int} {f1 : Int} (h : W.heap[g]? = some (.cells #[.slice A0 f0.length c0,.int .i64 f1] 70 (0,0))) : W.cell? ⟨g,1,none⟩ = some (.int .i64 f1):=(blk_cell h 1).trans rfl
theorem IsS70.set_1 {w0 W : World} {g : Nat} {f0 : List Int} {f1 : Int} (h : IsS70 w0 W g f0 f1) (x : Int) : IsS70 w0 (W.setCell ⟨g,1,none⟩ (.int .i64 x)) g f0 x:=by
 obtain ⟨A0,c0,hb,hg,hr0⟩:=h
 exact ⟨A0,c0,by simpa using blk_set hb 1 (.int .i64 x),hg,hr0⟩
theorem IsS70.new (w0 W : World) (A0 : Option Addr) (c0 : Nat) (f0 : List Int) (f1 : Int) (hB : Below w0.heap.size w0 W) (hr0 : Kd.C (Kd.int .u8) w0 A0 f0.length f0) : IsS70 w0 (W.alloc (.cells #[.slice A0 f0.length c0,.int .i64 f1] 70)) W.heap.size f0 f1:=⟨A0,c0,by simpa using heap_alloc_new W _,hB.size,hr0⟩

theorem Ip0 {P Q : Prop} (h : Aside0 P) (hs : P → Q := by intro h; repeat (first | (with_reducible first | exact h | apply IsS70.alloc | apply IsS70.drewN | apply IsS70.drew | apply IsS70.set_1) | exact h)) : Q := hs h.out
theorem Ip1 {P Q R : Prop} (h : Aside0 P) (h2 : Aside0 R) (hs : P → R → Q := by intro h h2; repeat (first | (with_reducible first | exact h | apply IsS70.alloc | apply IsS70.drewN | apply IsS70.drew | apply IsS70.set_1 | refine IsS70.far ?_ h2 _) | exact h)) : Q := hs h.out h2.out
/-! ### spec_l6Open: function 40 -/
def spec_l6Open.f (l0 : List Int) : Option (List Int × Int):=if (l0.length : Int) > 2000 then (if 2000 ≤ (l0.length : Int) then (some (l0.take 2000,0)) else (none)) else (some (l0,0))
set_option maxHeartbeats 8000000 in
set_option maxRecDepth 100000 in
theorem spec_l6Open.calls (A0 : Option Addr) (c0 : Nat) (l0 : List Int) (r1 : List Int) (r2 : Int) (w0 w : World) (hB : Below w0.heap.size w0 w) (hr0 : Kd.C (Kd.int .u8) w0 A0 l0.length l0) (hc0 : l0.length ≤ c0) (h : spec_l6Open.f l0 = some (r1,r2)) :
  Calls Tryd.prog 40 #[.slice A0 l0.length c0] w fun e w' => ∃ g_ : Nat,e = .returned (.pointer (some ⟨g_,0,none⟩)) ∧ IsS70 w0 w' g_ r1 r2 ∧ Below w0.heap.size w0 w' ∧ Below w.heap.size w w':=by
 have hu70:=Tryd.underlying70
 have HR0:=Aside0.mk hr0
 have HC0:=Aside0.mk hc0
 clear hr0 hc0
 have HBW:=Aside0.mk (Below.refl w.heap.size w)
 have HW0:=Aside0.mk hB.size
 have HB:=Aside0.mk hB
 clear hB
 have H : (if (l0.length : Int) > 2000 then (if 2000 ≤ (l0.length : Int) then (some (l0.take 2000,0)) else (none)) else (some (l0,0))) = some (r1,r2):=h
 clear h
 by_cases c2 : (l0.length : Int) > 2000
 ·rw [if_pos c2] at H
  have c2b0 : decide (2000 < (l0.length : Int)) = true:=decide_eq_true c2
  have c2b1 : decide (2000 < l0.length) = true:=decide_eq_true (by omega)
  clear c2
  by_cases c3 : 2000 ≤ (l0.length : Int)
  ·rw [if_pos c3] at H
   have c3b0:=eq_true c3
   have c3b1 : decide (2000 ≤ (l0.length : Int)) = true:=decide_eq_true c3
   clear c3
   simp only [Option.some.injEq,Prod.mk.injEq] at H
   obtain ⟨rfl,rfl⟩:=H
   obtain ⟨i04,hi04,_,hsz4,_⟩:=info_parts info5
   obtain ⟨hcut4,hA4,hC4⟩:=print_take_of (P:=Tryd.prog) (Value.int .u8) 0 29 5 .i64 Tryd.underlying29 hi04 hsz4 A0 c0 l0 2000 (by omega) (Up.od) HC0.out
   have HR248:=Aside0.mk (Kd.C_of_reads (h1:=fun _ => rfl) (hA4 _ (Kd.reads_of_C HR0.out)))
   have HC248:=Aside0.mk hC4
   clear hA4 hC4 hi04 hsz4
   go_enter Tryd.func40,Tryd.ntmps40
   go_wp2_with (first | ((with_reducible refine gate_dst (N:=10) rfl ?_);refine Up.bx 10 70 #[.slice A0 (l0.take 2000).length c0,.int .i64 0] ?_;intro gb249 hg w5 hbox hb;have n0_:=Aside0.mk (below_step HBW.out hb);have n1_:=Up.BB HB hb;have n2_:=Aside0.mk (hbox);have n3_:=Up.gw hg HBW;have n4_:=Aside0.mk ((Nat.le_trans HW0.out (by rw [hg];exact (below_size (Up.Bx HBW)) : w.heap.size ≤ gb249) : w0.heap.size ≤ gb249));clear HBW HB;have HBW:=n0_;have HB:=n1_;have BK249:=n2_;have GW249:=n3_;have GE249:=n4_;clear n0_ n1_ n2_ n3_ n4_ hb hbox hg))
   go_ret
   exact ⟨_,rfl,(show IsS70 w0 _ gb249 (l0.take 2000) 0 from ⟨_,_,by (with_reducible repeat (first | refine blk_drewN ?_ _ | refine blk_drew ?_ | refine blk_alloc ?_ _));exact BK249.out,GE249.out,HR248.out⟩),Up.Bx HB,by repeat (first | (with_reducible first | exact HBW.out | apply below_alloc | apply pw_below_drewN | apply below_drew1 | refine below_set ?_ GW249.out) | exact HBW.out)⟩
  ·rw [if_neg c3] at H
   exact absurd H (by simp)
 ·rw [if_neg c2] at H
  have c2b0 : decide (2000 < (l0.length : Int)) = false:=decide_eq_false c2
  have c2b1 : decide (2000 < l0.length) = false:=decide_eq_false (by omega)
  clear c2
  simp only [Option.some.injEq,Prod.mk.injEq] at H
  obtain ⟨rfl,rfl⟩:=H
  go_enter Tryd.func40,Tryd.ntmps40
  go_wp2_with (first | ((with_reducible refine gate_dst (N:=10) rfl ?_);refine Up.bx 10 70 #[.slice A0 l0.length c0,.int .i64 0] ?_;intro gb250 hg w6 hbox hb;have n0_:=Aside0.mk (below_step HBW.out hb);have n1_:=Up.BB HB hb;have n2_:=Aside0.mk (hbox);have n3_:=Up.gw hg HBW;have n4_:=Aside0.mk ((Nat.le_trans HW0.out (by rw [hg];exact (below_size (Up.Bx HBW)) : w.heap.size ≤ gb250) : w0.heap.size ≤ gb250));clear HBW HB;have HBW:=n0_;have HB:=n1_;have BK250:=n2_;have GW250:=n3_;have GE250:=n4_;clear n0_ n1_ n2_ n3_ n4_ hb hbox hg))
  go_ret
  exact ⟨_,rfl,(show IsS70 w0 _ gb250 l0 0 from ⟨_,_,by (with_reducible repeat (first | refine blk_drewN ?_ _ | refine blk_drew ?_ | refine blk_alloc ?_ _));exact BK250.out,GE250.out,HR0.out⟩),Up.Bx HB,by repeat (first | (with_reducible first | exact HBW.out | apply below_alloc | apply pw_below_drewN | apply below_drew1 | refine below_set ?_ GW250.out) | exact HBW.out)⟩

/-! ### spec_l6Rd_pick: function 42 -/
def spec_l6Rd_pick.j0 : Nat → Int → Bool → List Int → Int → Option (Int × Int)
 | 0,_,_,_,_ => none
 | k + 1,x1,x24,x1000,x1001 => if x24 = true then (some (0,x1001)) else (if (wrap64 (x1001 - 1)) < (x1000.length : Int) then (if 0 ≤ (wrap64 (x1001 - 1)) then (if x1 = 0 then (none) else (some (Int.tmod (wrap64 (rd x1000 (wrap64 (x1001 - 1)))) x1,x1001))) else (none)) else (if (x1000.length : Int) = 0 then (none) else (if 0 ≤ (Int.tmod (wrap64 (x1001 - 1)) (x1000.length : Int)) then (if (Int.tmod (wrap64 (x1001 - 1)) (x1000.length : Int)) < (x1000.length : Int) then (if 0 ≤ (Int.tmod (wrap64 ((wrap64 ((wrap64 (x1001 - 1)) * 7)) + 3)) (x1000.length : Int)) then (if (Int.tmod (wrap64 ((wrap64 ((wrap64 (x1001 - 1)) * 7)) + 3)) (x1000.length : Int)) < (x1000.length : Int) then (if x1 = 0 then (none) else (some (Int.tmod (Go.bits .xor .i64 (wrap64 ((wrap64 ((wrap64 ((wrap64 ((wrap64 (rd x1000 (Int.tmod (wrap64 (x1001 - 1)) (x1000.length : Int)))) * 131)) + (wrap64 ((wrap64 (rd x1000 (Int.tmod (wrap64 ((wrap64 ((wrap64 (x1001 - 1)) * 7)) + 3)) (x1000.length : Int)))) * 1117)))) + (wrap64 ((wrap64 (x1001 - 1)) * 29)))) + (wrap64 ((wrap64 (Int.tdiv (wrap64 (x1001 - 1)) (x1000.length : Int))) * 53)))) (wrap64 (Int.tdiv (wrap64 ((wrap64 ((wrap64 ((wrap64 ((wrap64 (rd x1000 (Int.tmod (wrap64 (x1001 - 1)) (x1000.length : Int)))) * 131)) + (wrap64 ((wrap64 (rd x1000 (Int.tmod (wrap64 ((wrap64 ((wrap64 (x1001 - 1)) * 7)) + 3)) (x1000.length : Int)))) * 1117)))) + (wrap64 ((wrap64 (x1001 - 1)) * 29)))) + (wrap64 ((wrap64 (Int.tdiv (wrap64 (x1001 - 1)) (x1000.length : Int))) * 53)))) 64))) x1,x1001))) else (none)) else (none)) else (none)) else (none))))
def spec_l6Rd_pick.f (k : Nat) (s0_0 : List Int) (s0_1 : Int) (a1 : Int) : Option (Int × Int):=if a1 < 1 then (spec_l6Rd_pick.j0 k a1 true s0_0 (wrap64 (s0_1 + 1))) else (spec_l6Rd_pick.j0 k a1 ((s0_0.length : Int) == 0) s0_0 (wrap64 (s0_1 + 1)))
theorem spec_l6Rd_pick.mono_l : ∀ k,(∀ y0 y1 y2 y3,LeO (spec_l6Rd_pick.j0 k y0 y1 y2 y3) (spec_l6Rd_pick.j0 (k + 1) y0 y1 y2 y3))
 | 0 => fun _ _ _ _ r h => by simp [spec_l6Rd_pick.j0] at h
 | k + 1 => by
  have ih0:=spec_l6Rd_pick.mono_l k
  ·intro y0 y1 y2 y3
   unfold spec_l6Rd_pick.j0
   repeat' first
   | (with_reducible exact ih0 _ _ _ _)
   | (with_reducible exact LeO.refl _)
   | (with_reducible exact LeO.none _)
   | (with_reducible refine LeO.ite ?_ ?_)
   | (with_reducible refine LeO.bind ?_ (fun _ => ?_))
   | exact ih0 _ _ _ _
   | exact LeO.none _
   | refine LeO.ite ?_ ?_
   | refine LeO.bind ?_ (fun _ => ?_)
theorem spec_l6Rd_pick.mono : ∀ a0 a1 a2 k,LeO (spec_l6Rd_pick.f k a0 a1 a2) (spec_l6Rd_pick.f (k + 1) a0 a1 a2):=by
 intro a0 a1 a2 k
 have ih0:=spec_l6Rd_pick.mono_l k
 unfold spec_l6Rd_pick.f
 repeat' first
   | (with_reducible exact ih0 _ _ _ _)
   | (with_reducible exact LeO.refl _)
   | (with_reducible exact LeO.none _)
   | (with_reducible refine LeO.ite ?_ ?_)
   | (with_reducible refine LeO.bind ?_ (fun _ => ?_))
   | exact ih0 _ _ _ _
   | exact LeO.none _
   | refine LeO.ite ?_ ?_
   | refine LeO.bind ?_ (fun _ => ?_)
set_option maxHeartbeats 8000000 in
set_option maxRecDepth 100000 in
theorem spec_l6Rd_pick.calls (k : Nat) (g : Nat) (s0_0 : List Int) (s0_1 : Int) (a1 : Int) (r1 : Int) (r2 : Int) (w0 w : World) (hI : IsS70 w0 w g s0_0 s0_1) (hB : Below w0.heap.size w0 w) (h : spec_l6Rd_pick.f k s0_0 s0_1 a1 = some (r1,r2)) :
  Calls Tryd.prog 42 #[.pointer (some ⟨g,0,none⟩),.int .i64 a1] w fun e w' => e = .returned (.int .i64 r1) ∧ IsS70 w0 w' g s0_0 r2 ∧ Below w0.heap.size w0 w' ∧ KeepBut w w' g none:=by
 have HI0:=Aside0.mk hI
 have HK:=Aside0.mk (KeepBut.refl w g none)
 have HL:=Aside0.mk hB.size
 clear hI
 have HW0:=Aside0.mk hB.size
 have HB:=Aside0.mk hB
 clear hB
 have H : (if a1 < 1 then (spec_l6Rd_pick.j0 k a1 true s0_0 (wrap64 (s0_1 + 1))) else (spec_l6Rd_pick.j0 k a1 ((s0_0.length : Int) == 0) s0_0 (wrap64 (s0_1 + 1)))) = some (r1,r2):=h
 clear h
 have HC3:=Aside0.mk H
 clear H
 obtain ⟨ASz4_0,cSz4_0,HGz4,hgz4,HSz4_0⟩:=HI0.out
 have hcz4_0:=cellS70_0 HGz4
 have hcz4_1:=cellS70_1 HGz4
 have hfz4_1:=blk_frozen HGz4 1
 clear HGz4 hgz4
 go_enter Tryd.func42,Tryd.ntmps42
 go_upto_region 2 with (fail)
 repeat (go_quiet (fail);go_upto_region 2 with (fail))
 go_cut [24] (fun v24 wc => ∃ (kq : Nat) (x24_2 : Bool),v24 = .bool x24_2 ∧ Aside0 (spec_l6Rd_pick.j0 kq a1 x24_2 s0_0 (wrap64 (s0_1 + 1)) = some (r1,r2)) ∧ Aside0 (kq ≤ k) ∧ Aside0 (IsS70 w0 wc g s0_0 (wrap64 (s0_1 + 1))) ∧ Aside0 (KeepBut w wc g none) ∧ Aside0 (Below w0.heap.size w0 wc))
 case first =>
  have H:=HC3.out
  clear HC3
  by_cases c5 : a1 < 1
  ·rw [if_pos c5] at H
   have c5b0 : decide (a1 < 1) = true:=decide_eq_true c5
   clear c5
   (first | rw [c5b0] | (simp only [i64_w,i32_w];rw [c5b0]) | skip)
   have H':=Aside0.mk H
   clear H
   go_wp2
   repeat (go_quiet (fail);try go_wp2)
   go_meet
   case rel => exact ⟨_,(true),(by first | rfl | (simp;done) | (simp [*];done)),H',⟨by first | omega | exact Nat.le_refl _⟩,⟨by repeat (first | (with_reducible first | exact HI0.out | apply IsS70.alloc | apply IsS70.drewN | apply IsS70.drew | apply IsS70.set_1) | exact HI0.out)⟩,⟨by repeat (first | (with_reducible first | exact HK.out | apply KeepBut.set_ | apply keep_drewN | apply keep_drew | apply keep_alloc) | exact HK.out)⟩,⟨by repeat (first | (with_reducible first | exact HB.out | apply below_alloc | apply pw_below_drewN | apply below_drew1 | refine below_set ?_ (IsS70.ge HI0.out)) | exact HB.out)⟩⟩
  ·rw [if_neg c5] at H
   have c5b0 : decide (a1 < 1) = false:=decide_eq_false c5
   clear c5
   (first | rw [c5b0] | (simp only [i64_w,i32_w];rw [c5b0]) | skip)
   have H':=Aside0.mk H
   clear H
   obtain ⟨ASz6_0,cSz6_0,HGz6,hgz6,HSz6_0⟩:=HI0.out
   have hcz6_0:=cellS70_0 HGz6
   have hcz6_1:=cellS70_1 HGz6
   have hfz6_1:=blk_frozen HGz6 1
   clear HGz6 hgz6
   go_wp2
   repeat (go_quiet (fail);try go_wp2)
   go_meet
   case rel => exact ⟨_,(((s0_0.length : Int) == 0)),(by first | rfl | (simp;done) | (simp [*];done)),H',⟨by first | omega | exact Nat.le_refl _⟩,⟨by repeat (first | (with_reducible first | exact HI0.out | apply IsS70.alloc | apply IsS70.drewN | apply IsS70.drew | apply IsS70.set_1) | exact HI0.out)⟩,⟨by repeat (first | (with_reducible first | exact HK.out | apply KeepBut.set_ | apply keep_drewN | apply keep_drew | apply keep_alloc) | exact HK.out)⟩,⟨by repeat (first | (with_reducible first | exact HB.out | apply below_alloc | apply pw_below_drewN | apply below_drew1 | refine below_set ?_ (IsS70.ge HI0.out)) | exact HB.out)⟩⟩
 case rest =>
  clear HC3
  try clear p2
  try clear c4
  try clear c5
  try clear c5b0
  try clear p6
  try clear hcz4_0
  try clear hcz4_1
  try clear hcz6_0
  try clear hcz6_1
  try clear hfz4_1
  try clear hfz6_1
  obtain ⟨kq,x24_2,rfl,HA,HJ2,HI0,HK,HB⟩:=hcut
  cases kq with
  | zero => exact absurd HA.out (by simp [spec_l6Rd_pick.j0])
  | succ kj2 =>
   have H:=HA.out
   clear HA
   simp only [spec_l6Rd_pick.j0] at H
   by_cases c7 : x24_2 = true
   ·subst c7
    have H1 : (some (0,(wrap64 (s0_1 + 1)))) = some (r1,r2):=by rw [if_pos rfl] at H;exact H
    clear H
    have H:=H1
    clear H1
    simp only [Option.some.injEq,Prod.mk.injEq] at H
    obtain ⟨rfl,rfl⟩:=H
    go_wp2
    repeat (go_quiet (fail);try go_wp2)
    go_ret
    exact ⟨by first | rfl | (simp [errW_none,errW_some] <;> rfl) | (simp [*,errW_none,errW_some] <;> rfl),by repeat (first | (with_reducible first | exact HI0.out | apply IsS70.alloc | apply IsS70.drewN | apply IsS70.drew | apply IsS70.set_1) | exact HI0.out),by repeat (first | (with_reducible first | exact HB.out | apply below_alloc | apply pw_below_drewN | apply below_drew1 | refine below_set ?_ (IsS70.ge HI0.out)) | exact HB.out),by repeat (first | (with_reducible first | exact HK.out | apply KeepBut.set_ | apply keep_drewN | apply keep_drew | apply keep_alloc) | exact HK.out)⟩
   ·replace c7:=Bool.eq_false_iff.mpr c7
    subst c7
    have H1 : (if (wrap64 ((wrap64 (s0_1 + 1)) - 1)) < (s0_0.length : Int) then (if 0 ≤ (wrap64 ((wrap64 (s0_1 + 1)) - 1)) then (if a1 = 0 then (none) else (some (Int.tmod (wrap64 (rd s0_0 (wrap64 ((wrap64 (s0_1 + 1)) - 1)))) a1,(wrap64 (s0_1 + 1))))) else (none)) else (if (s0_0.length : Int) = 0 then (none) else (if 0 ≤ (Int.tmod (wrap64 ((wrap64 (s0_1 + 1)) - 1)) (s0_0.length : Int)) then (if (Int.tmod (wrap64 ((wrap64 (s0_1 + 1)) - 1)) (s0_0.length : Int)) < (s0_0.length : Int) then (if 0 ≤ (Int.tmod (wrap64 ((wrap64 ((wrap64 ((wrap64 (s0_1 + 1)) - 1)) * 7)) + 3)) (s0_0.length : Int)) then (if (Int.tmod (wrap64 ((wrap64 ((wrap64 ((wrap64 (s0_1 + 1)) - 1)) * 7)) + 3)) (s0_0.length : Int)) < (s0_0.length : Int) then (if a1 = 0 then (none) else (some (Int.tmod (Go.bits .xor .i64 (wrap64 ((wrap64 ((wrap64 ((wrap64 ((wrap64 (rd s0_0 (Int.tmod (wrap64 ((wrap64 (s0_1 + 1)) - 1)) (s0_0.length : Int)))) * 131)) + (wrap64 ((wrap64 (rd s0_0 (Int.tmod (wrap64 ((wrap64 ((wrap64 ((wrap64 (s0_1 + 1)) - 1)) * 7)) + 3)) (s0_0.length : Int)))) * 1117)))) + (wrap64 ((wrap64 ((wrap64 (s0_1 + 1)) - 1)) * 29)))) + (wrap64 ((wrap64 (Int.tdiv (wrap64 ((wrap64 (s0_1 + 1)) - 1)) (s0_0.length : Int))) * 53)))) (wrap64 (Int.tdiv (wrap64 ((wrap64 ((wrap64 ((wrap64 ((wrap64 (rd s0_0 (Int.tmod (wrap64 ((wrap64 (s0_1 + 1)) - 1)) (s0_0.length : Int)))) * 131)) + (wrap64 ((wrap64 (rd s0_0 (Int.tmod (wrap64 ((wrap64 ((wrap64 ((wrap64 (s0_1 + 1)) - 1)) * 7)) + 3)) (s0_0.length : Int)))) * 1117)))) + (wrap64 ((wrap64 ((wrap64 (s0_1 + 1)) - 1)) * 29)))) + (wrap64 ((wrap64 (Int.tdiv (wrap64 ((wrap64 (s0_1 + 1)) - 1)) (s0_0.length : Int))) * 53)))) 64))) a1,(wrap64 (s0_1 + 1))))) else (none)) else (none)) else (none)) else (none)))) = some (r1,r2):=by rw [if_neg (show ¬ (false = true) by decide)] at H;exact H
    clear H
    have H:=H1
    clear H1
    by_cases c8 : (wrap64 ((wrap64 (s0_1 + 1)) - 1)) < (s0_0.length : Int)
    ·rw [if_pos c8] at H
     have c8b0 : decide ((wrap64 ((wrap64 (s0_1 + 1)) - 1)) < (s0_0.length : Int)) = true:=decide_eq_true c8
     clear c8
     obtain ⟨ji9,hji9⟩ : ∃ j_ : Int,(wrap64 ((wrap64 (s0_1 + 1)) - 1)) = j_:=⟨_,rfl⟩
     replace H : (if 0 ≤ (ji9) then (if a1 = 0 then (none) else (some (Int.tmod (wrap64 (rd s0_0 (ji9))) a1,(wrap64 (s0_1 + 1))))) else (none)) = some (r1,r2):=by first | (rw [hji9] at H;exact H) | (simp only [hji9] at H ⊢;exact H)
     (try rw [hji9] at c8b0)
     have hji9w : (IntKind.i64.wrap ((wrap64 (s0_1 + 1)) - 1)) = ji9:=(i64_w _).trans hji9
     by_cases c10 : 0 ≤ (ji9)
     ·rw [if_pos c10] at H
      have c10b0 : decide (0 ≤ (ji9)) = true:=decide_eq_true c10
      clear c10
      by_cases c11 : a1 = 0
      ·rw [if_pos c11] at H
       exact absurd H (by simp)
      ·rw [if_neg c11] at H
       have c11b0 : (a1 == 0) = false:=beq_eq_false_iff_ne.mpr c11
       have c11b1 : (a1 != 0) = true:=bne_iff_ne.mpr c11
       simp only [Option.some.injEq,Prod.mk.injEq] at H
       obtain ⟨rfl,rfl⟩:=H
       obtain ⟨ASz12_0,cSz12_0,HGz12,hgz12,HSz12_0⟩:=HI0.out
       have hcz12_0:=cellS70_0 HGz12
       have hcz12_1:=cellS70_1 HGz12
       have hfz12_1:=blk_frozen HGz12 1
       clear HGz12 hgz12
       have p251 : 0 ≤ ((ji9) : Int):=Up.od
       have q251 : (ji9) < (s0_0.length : Int):=Up.od
       obtain ⟨ad251,e251,hx251_0⟩:=Kd.at_int HSz12_0 (ji9) p251 q251
       cases e251
       replace hx251_0:=pw_cell_below HB.out hx251_0
       replace p251:=eq_true p251
       replace q251:=eq_true q251
       go_wp2
       repeat (go_quiet (fail);try go_wp2)
       go_ret
       exact ⟨by first | rfl | (simp [errW_none,errW_some] <;> rfl) | (simp only [← hji9];first | rfl | (simp [errW_none,errW_some] <;> rfl)) | (simp [*,errW_none,errW_some] <;> rfl),by repeat (first | (with_reducible first | exact HI0.out | apply IsS70.alloc | apply IsS70.drewN | apply IsS70.drew | apply IsS70.set_1) | exact HI0.out),by repeat (first | (with_reducible first | exact HB.out | apply below_alloc | apply pw_below_drewN | apply below_drew1 | refine below_set ?_ (IsS70.ge HI0.out)) | exact HB.out),by repeat (first | (with_reducible first | exact HK.out | apply KeepBut.set_ | apply keep_drewN | apply keep_drew | apply keep_alloc) | exact HK.out)⟩
     ·rw [if_neg c10] at H
      exact absurd H (by simp)
    ·rw [if_neg c8] at H
     have c8b0 : decide ((wrap64 ((wrap64 (s0_1 + 1)) - 1)) < (s0_0.length : Int)) = false:=decide_eq_false c8
     clear c8
     by_cases c13 : (s0_0.length : Int) = 0
     ·rw [if_pos c13] at H
      exact absurd H (by simp)
     ·rw [if_neg c13] at H
      have c13b0 : ((s0_0.length : Int) == 0) = false:=beq_eq_false_iff_ne.mpr c13
      have c13b1 : ((s0_0.length : Int) != 0) = true:=bne_iff_ne.mpr c13
      have c13b2 : ¬ (s0_0 = []):=fun h_ => c13 (by rw [h_];rfl)
      obtain ⟨ji14,hji14⟩ : ∃ j_ : Int,(Int.tmod (wrap64 ((wrap64 (s0_1 + 1)) - 1)) (s0_0.length : Int)) = j_:=⟨_,rfl⟩
      replace H : (if 0 ≤ (ji14) then (if (ji14) < (s0_0.length : Int) then (if 0 ≤ (Int.tmod (wrap64 ((wrap64 ((wrap64 ((wrap64 (s0_1 + 1)) - 1)) * 7)) + 3)) (s0_0.length : Int)) then (if (Int.tmod (wrap64 ((wrap64 ((wrap64 ((wrap64 (s0_1 + 1)) - 1)) * 7)) + 3)) (s0_0.length : Int)) < (s0_0.length : Int) then (if a1 = 0 then (none) else (some (Int.tmod (Go.bits .xor .i64 (wrap64 ((wrap64 ((wrap64 ((wrap64 ((wrap64 (rd s0_0 (ji14))) * 131)) + (wrap64 ((wrap64 (rd s0_0 (Int.tmod (wrap64 ((wrap64 ((wrap64 ((wrap64 (s0_1 + 1)) - 1)) * 7)) + 3)) (s0_0.length : Int)))) * 1117)))) + (wrap64 ((wrap64 ((wrap64 (s0_1 + 1)) - 1)) * 29)))) + (wrap64 ((wrap64 (Int.tdiv (wrap64 ((wrap64 (s0_1 + 1)) - 1)) (s0_0.length : Int))) * 53)))) (wrap64 (Int.tdiv (wrap64 ((wrap64 ((wrap64 ((wrap64 ((wrap64 (rd s0_0 (ji14))) * 131)) + (wrap64 ((wrap64 (rd s0_0 (Int.tmod (wrap64 ((wrap64 ((wrap64 ((wrap64 (s0_1 + 1)) - 1)) * 7)) + 3)) (s0_0.length : Int)))) * 1117)))) + (wrap64 ((wrap64 ((wrap64 (s0_1 + 1)) - 1)) * 29)))) + (wrap64 ((wrap64 (Int.tdiv (wrap64 ((wrap64 (s0_1 + 1)) - 1)) (s0_0.length : Int))) * 53)))) 64))) a1,(wrap64 (s0_1 + 1))))) else (none)) else (none)) else (none)) else (none)) = some (r1,r2):=by first | (rw [hji14] at H;exact H) | (simp only [hji14] at H ⊢;exact H)
      by_cases c15 : 0 ≤ (ji14)
      ·rw [if_pos c15] at H
       have c15b0 : decide (0 ≤ (ji14)) = true:=decide_eq_true c15
       clear c15
       by_cases c16 : (ji14) < (s0_0.length : Int)
       ·rw [if_pos c16] at H
        have c16b0 : decide ((ji14) < (s0_0.length : Int)) = true:=decide_eq_true c16
        clear c16
        obtain ⟨ji17,hji17⟩ : ∃ j_ : Int,(Int.tmod (wrap64 ((wrap64 ((wrap64 ((wrap64 (s0_1 + 1)) - 1)) * 7)) + 3)) (s0_0.length : Int)) = j_:=⟨_,rfl⟩
        replace H : (if 0 ≤ (ji17) then (if (ji17) < (s0_0.length : Int) then (if a1 = 0 then (none) else (some (Int.tmod (Go.bits .xor .i64 (wrap64 ((wrap64 ((wrap64 ((wrap64 ((wrap64 (rd s0_0 (ji14))) * 131)) + (wrap64 ((wrap64 (rd s0_0 (ji17))) * 1117)))) + (wrap64 ((wrap64 ((wrap64 (s0_1 + 1)) - 1)) * 29)))) + (wrap64 ((wrap64 (Int.tdiv (wrap64 ((wrap64 (s0_1 + 1)) - 1)) (s0_0.length : Int))) * 53)))) (wrap64 (Int.tdiv (wrap64 ((wrap64 ((wrap64 ((wrap64 ((wrap64 (rd s0_0 (ji14))) * 131)) + (wrap64 ((wrap64 (rd s0_0 (ji17))) * 1117)))) + (wrap64 ((wrap64 ((wrap64 (s0_1 + 1)) - 1)) * 29)))) + (wrap64 ((wrap64 (Int.tdiv (wrap64 ((wrap64 (s0_1 + 1)) - 1)) (s0_0.length : Int))) * 53)))) 64))) a1,(wrap64 (s0_1 + 1))))) else (none)) else (none)) = some (r1,r2):=by first | (rw [hji17] at H;exact H) | (simp only [hji17] at H ⊢;exact H)
        by_cases c18 : 0 ≤ (ji17)
        ·rw [if_pos c18] at H
         have c18b0 : decide (0 ≤ (ji17)) = true:=decide_eq_true c18
         clear c18
         by_cases c19 : (ji17) < (s0_0.length : Int)
         ·rw [if_pos c19] at H
          have c19b0 : decide ((ji17) < (s0_0.length : Int)) = true:=decide_eq_true c19
          clear c19
          by_cases c20 : a1 = 0
          ·rw [if_pos c20] at H
           exact absurd H (by simp)
          ·rw [if_neg c20] at H
           have c20b0 : (a1 == 0) = false:=beq_eq_false_iff_ne.mpr c20
           have c20b1 : (a1 != 0) = true:=bne_iff_ne.mpr c20
           simp only [Option.some.injEq,Prod.mk.injEq] at H
           obtain ⟨rfl,rfl⟩:=H
           obtain ⟨ASz21_0,cSz21_0,HGz21,hgz21,HSz21_0⟩:=HI0.out
           have hcz21_0:=cellS70_0 HGz21
           have hcz21_1:=cellS70_1 HGz21
           have hfz21_1:=blk_frozen HGz21 1
           clear HGz21 hgz21
           have p252 : 0 ≤ ((ji14) : Int):=Up.od
           have q252 : (ji14) < (s0_0.length : Int):=Up.od
           obtain ⟨ad252,e252,hx252_0⟩:=Kd.at_int HSz21_0 (ji14) p252 q252
           cases e252
           replace hx252_0:=pw_cell_below HB.out hx252_0
           replace p252:=eq_true p252
           replace q252:=eq_true q252
           have p253 : 0 ≤ ((ji17) : Int):=Up.od
           have q253 : (ji17) < (s0_0.length : Int):=Up.od
           obtain ⟨ad253,e253,hx253_0⟩:=Kd.at_int HSz21_0 (ji17) p253 q253
           obtain rfl : ad252 = ad253:=(by injection e253)
           replace hx253_0:=pw_cell_below HB.out hx253_0
           replace p253:=eq_true p253
           replace q253:=eq_true q253
           go_wp2
           repeat (go_quiet (fail);try go_wp2)
           go_ret
           exact ⟨by first | rfl | (simp [errW_none,errW_some] <;> rfl) | (simp only [← hji14,← hji17];first | rfl | (simp [errW_none,errW_some] <;> rfl)) | (simp [*,errW_none,errW_some] <;> rfl),by repeat (first | (with_reducible first | exact HI0.out | apply IsS70.alloc | apply IsS70.drewN | apply IsS70.drew | apply IsS70.set_1) | exact HI0.out),by repeat (first | (with_reducible first | exact HB.out | apply below_alloc | apply pw_below_drewN | apply below_drew1 | refine below_set ?_ (IsS70.ge HI0.out)) | exact HB.out),by repeat (first | (with_reducible first | exact HK.out | apply KeepBut.set_ | apply keep_drewN | apply keep_drew | apply keep_alloc) | exact HK.out)⟩
         ·rw [if_neg c19] at H
          exact absurd H (by simp)
        ·rw [if_neg c18] at H
         exact absurd H (by simp)
       ·rw [if_neg c16] at H
        exact absurd H (by simp)
      ·rw [if_neg c15] at H
       exact absurd H (by simp)

end Go.Proofs.YtfkhjnmgaadomaaDoor.OFnInsRead
