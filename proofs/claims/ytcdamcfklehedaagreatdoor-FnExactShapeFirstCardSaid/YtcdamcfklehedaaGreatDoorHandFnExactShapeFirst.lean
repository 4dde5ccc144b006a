/- The law FnExactShapeFirst answers true, for every shelf within the bounds of the reading and every two numbers: its functions are walked, and what they write is told cell by cell. -/
-- squeezed
import Derived.Test.YtcdamcfklehedaaGreatDoorOFnExactShapeFirstx0
import Derived.Test.YtcdamcfklehedaaGreatDoorOFnExactShapeFirstx1
import Derived.Test.YtcdamcfklehedaaGreatDoorOFnExactShapeFirstx2
import Derived.Test.YtcdamcfklehedaaGreatDoorOFnExactShapeFirstx3
import Derived.Test.YtcdamcfklehedaaGreatDoorOFnExactShapeFirstx4
import Derived.Test.YtcdamcfklehedaaGreatDoorOFnExactShapeFirstx5
import Derived.Test.YtcdamcfklehedaaGreatDoorOFnExactShapeFirstx6
import Derived.Test.YtcdamcfklehedaaGreatDoorPureFnExactShapeFirst
namespace Go.Proofs.YtcdamcfklehedaaGreatDoor.Hand
open Go.RowKit Go.Proofs.YtcdamcfklehedaaGreatDoorW.PrintWords Go.Proofs.YtcdamcfklehedaaGreatDoorW.PrintLast Go.Proofs.YtcdamcfklehedaaGreatDoorW.PrintMore Go.Proofs.YtcdamcfklehedaaGreatDoor Go.Proofs.YtcdamcfklehedaaGreatDoor.Pure Go.Proofs.YtcdamcfklehedaaGreatDoor.Base
set_option linter.unusedVariables false
set_option linter.unusedSimpArgs false
/-! Rows that are written in place: rows seen through a shorter room, rows inside rows, nothing shared between them. -/
def cutV : Value → Nat → Value
 | .slice A n _,c=>.slice A n c
 | v,_=>v
@[go_sem] theorem cutV_slice (A : Option Addr) (n c d : Nat) : cutV (.slice A n c) d = .slice A n d:=rfl
section
variable {α β : Type} {d : Kd α} {e g n c base : Nat} {ok ok' oki : Nat → Prop} {w w1 W : World} {v : Value} {xs : List α}
def sl {α : Type} (e : Nat) (d : Kd α) : Kd (List α) where
 sz:=1
 E:=e :: d.E
 K:=fun w xs cs=>∃ A c,cs = [.slice A xs.length c] ∧ xs.length ≤ c ∧ d.C w A xs.length xs
 M:=fun w base ok xs cs=>∃ v c,cs = [cutV v c] ∧ xs.length ≤ c ∧ Kd.S d e w base ok v xs
 K_len:=by
  rintro w x cs ⟨A,c,rfl,_⟩
  rfl
 K_one:=by
  rintro w x cs ⟨A,c,rfl,_⟩ u hu
  rw [List.mem_singleton.1 hu]
  rfl
 K_below:=by
  rintro w w1 x cs hb ⟨A,c,rfl,hl,hr⟩
  exact ⟨A,c,rfl,hl,Kd.C_below hr hb⟩
 K_of_M:=by
  rintro w base ok x cs ⟨v,c,rfl,hl,h⟩
  obtain ⟨A,c',rfl,_,hr⟩:=Kd.S_reads h
  exact ⟨A,c,rfl,hl,hr⟩
 M_mono:=by
  rintro w base ok ok' x cs hok ⟨v,c,rfl,hl,h⟩
  exact ⟨v,c,rfl,hl,Kd.S_mono h hok⟩
 M_bound:=by
  rintro w base ok x cs ⟨v,c,rfl,hl,h⟩
  exact ⟨v,c,rfl,hl,Kd.S_bound h⟩
 M_move:=by
  rintro w w1 base ok x cs hm ⟨v,c,rfl,hl,h⟩
  exact ⟨v,c,rfl,hl,Kd.S_move h hm⟩
 M_lower:=by
  rintro w base base' ok x cs hb ⟨v,c,rfl,hl,h⟩
  exact ⟨v,c,rfl,hl,Kd.S_lower h hb⟩
def pr {α β : Type} (a : Kd α) (b : Kd β) : Kd (α × β) where
 sz:=a.sz + b.sz
 E:=a.E ++ b.E
 K:=fun w x cs=>∃ c0 c1,cs = c0 ++ c1 ∧ a.K w x.1 c0 ∧ b.K w x.2 c1
 M:=fun w base ok x cs=>∃ c0 c1,cs = c0 ++ c1 ∧ ∃ p : Nat → Prop,a.M w base (fun k=>ok k ∧ p k) x.1 c0 ∧ b.M w base (fun k=>ok k ∧ ¬ p k) x.2 c1
 K_len:=by
  rintro w x cs ⟨c0,c1,rfl,h0,h1⟩
  rw [List.length_append,a.K_len h0,b.K_len h1]
 K_one:=by
  rintro w x cs ⟨c0,c1,rfl,h0,h1⟩ u hu
  rcases List.mem_append.1 hu with hu | hu
  ·exact a.K_one h0 u hu
  ·exact b.K_one h1 u hu
 K_below:=by
  rintro w w1 x cs hb ⟨c0,c1,rfl,h0,h1⟩
  exact ⟨c0,c1,rfl,a.K_below hb h0,b.K_below hb h1⟩
 K_of_M:=by
  rintro w base ok x cs ⟨c0,c1,rfl,p,h0,h1⟩
  exact ⟨c0,c1,rfl,a.K_of_M h0,b.K_of_M h1⟩
 M_mono:=by
  rintro w base ok ok' x cs hok ⟨c0,c1,rfl,p,h0,h1⟩
  exact ⟨c0,c1,rfl,p,a.M_mono (fun k hk=>⟨hok k hk.1,hk.2⟩) h0,b.M_mono (fun k hk=>⟨hok k hk.1,hk.2⟩) h1⟩
 M_bound:=by
  rintro w base ok x cs ⟨c0,c1,rfl,p,h0,h1⟩
  refine ⟨c0,c1,rfl,p,a.M_mono ?_ (a.M_bound h0),b.M_mono ?_ (b.M_bound h1)⟩
  ·rintro k ⟨⟨h2,hp⟩,h3,h4,q,hq,hc⟩
   exact ⟨⟨h2,h3,h4,q,List.mem_append_left _ hq,hc⟩,hp⟩
  ·rintro k ⟨⟨h2,hp⟩,h3,h4,q,hq,hc⟩
   exact ⟨⟨h2,h3,h4,q,List.mem_append_right _ hq,hc⟩,hp⟩
 M_move:=by
  rintro w w1 base ok x cs hm ⟨c0,c1,rfl,p,h0,h1⟩
  exact ⟨c0,c1,rfl,p,a.M_move (fun k hk=>hm k hk.1) h0,b.M_move (fun k hk=>hm k hk.1) h1⟩
 M_lower:=by
  rintro w base base' ok x cs hb ⟨c0,c1,rfl,p,h0,h1⟩
  exact ⟨c0,c1,rfl,p,a.M_lower hb h0,b.M_lower hb h1⟩
theorem S_flat (hE : d.E = []) (h : d.R e w base ok v xs) : Kd.S d e w base ok v xs:=by
 obtain ⟨h0,inner,ho,hr⟩:=h
 refine Kd.S_bare ⟨h0,inner,ho,hr.imp_ (fun p c hp=>d.M_mono (fun k hk=>?_) (d.M_bound hp))⟩
 obtain ⟨_,_,_,q,hq,_⟩:=hk
 rw [hE] at hq
 cases hq
end
/-! What is marked: the cells of a nested structure that hold numbers and texts, in order. -/
section
abbrev Slot:=Nat × Nat × Bool
inductive Ty where
 | nil | int (t : Ty) | str (t : Ty) | row (e t : Ty)
def Ty.sz : Ty → Nat
 | .nil=>0
 | .int t=>t.sz + 1
 | .str t=>t.sz + 1
 | .row _ t=>t.sz + 1
def RowOf (P : Nat → Nat → List Slot → Prop) (sz : Nat) (v : Value) (s : List Slot) : Prop :=
 (∃ c,v = .slice none 0 c ∧ s = []) ∨ ∃ g n c,v = .slice (some ⟨g,0,none⟩) n c ∧ n ≤ c ∧ n ≤ maxLen ∧ ∃ ss : List (List Slot),ss.length = n ∧ s = ss.flatten ∧ ∀ j t,ss[j]? = some t → P g (j * sz) t
def Cel (w : World) : Ty → Nat → Nat → List Slot → Prop
 | .nil,_,_,sl=>sl = []
 | .int t,g,o,sl=>(∃ i,w.cell? ⟨g,o,none⟩ = some (.int .i64 i)) ∧ w.frozen? ⟨g,o,none⟩ = false ∧ ∃ r,sl = (g,o,false) :: r ∧ Cel w t g (o + 1) r
 | .str t,g,o,sl=>(∃ s,w.cell? ⟨g,o,none⟩ = some (.string s)) ∧ w.frozen? ⟨g,o,none⟩ = false ∧ ∃ r,sl = (g,o,true) :: r ∧ Cel w t g (o + 1) r
 | .row e t,g,o,sl=>∃ v s r,w.cell? ⟨g,o,none⟩ = some v ∧ RowOf (Cel w e) e.sz v s ∧ sl = s ++ r ∧ Cel w t g (o + 1) r
theorem RowOf.imp {P Q : Nat → Nat → List Slot → Prop} {sz : Nat} {v : Value} {s : List Slot} (h : RowOf P sz v s) (hi : ∀ g o t,P g o t → Q g o t) : RowOf Q sz v s:=by
 rcases h with h | ⟨g,n,c,hv,h1,h2,ss,h3,h4,h5⟩
 ·exact .inl h
 ·exact .inr ⟨g,n,c,hv,h1,h2,ss,h3,h4,fun j t hj=>hi _ _ _ (h5 j t hj)⟩
theorem RowOf.slice {P : Nat → Nat → List Slot → Prop} {sz : Nat} {v : Value} {s : List Slot} (h : RowOf P sz v s) : ∃ A n c,v = .slice A n c:=by
 rcases h with ⟨c,h,_⟩ | ⟨g,n,c,hv,_⟩
 ·exact ⟨_,_,_,h⟩
 ·exact ⟨_,_,_,hv⟩
structure TP (w w' : World) : Prop where
 env : w'.os = w.os ∧ w'.tape = w.tape ∧ w'.output = w.output
 size : w.heap.size ≤ w'.heap.size
 sl : ∀ a A n c,w.cell? a = some (.slice A n c) → w'.cell? a = some (.slice A n c)
 str : ∀ a s,w.cell? a = some (.string s) → ∃ s',w'.cell? a = some (.string s')
 int : ∀ a i,w.cell? a = some (.int .i64 i) → ∃ i',w'.cell? a = some (.int .i64 i')
 fz : ∀ a,a.block < w.heap.size → w.frozen? a = false → w'.frozen? a = false
theorem TP.refl (w : World) : TP w w:=⟨⟨rfl,rfl,rfl⟩,Nat.le_refl _,fun _ _ _ _ h=>h,fun _ s h=>⟨s,h⟩,fun _ i h=>⟨i,h⟩,fun _ _ h=>h⟩
theorem TP.of_below {w w' : World} (h : Below w.heap.size w w') : TP w w' :=
 ⟨⟨h.os,h.tape,h.output⟩,h.size,fun a _ _ _ hc=>(h.cell (World.block_lt_of_cell? w a hc)).trans hc,fun a s hc=>⟨s,(h.cell (World.block_lt_of_cell? w a hc)).trans hc⟩,fun a i hc=>⟨i,(h.cell (World.block_lt_of_cell? w a hc)).trans hc⟩,
  fun a ha hf=>(h.frozen ha).trans hf⟩
theorem Cel.tp {w w' : World} (h : TP w w') : ∀ (t : Ty) (g o : Nat) (sl : List Slot),Cel w t g o sl → Cel w' t g o sl
 | .nil,_,_,_,hc=>hc
 | .int t,g,o,_,⟨⟨_,hc⟩,hf,r,hr,ht⟩=>⟨h.int _ _ hc,h.fz _ (World.block_lt_of_cell? w _ hc) hf,r,hr,Cel.tp h t g (o + 1) r ht⟩
 | .str t,g,o,_,⟨⟨_,hc⟩,hf,r,hr,ht⟩=>⟨h.str _ _ hc,h.fz _ (World.block_lt_of_cell? w _ hc) hf,r,hr,Cel.tp h t g (o + 1) r ht⟩
 | .row e t,g,o,_,⟨v,s,r,hc,hv,hr,ht⟩=>⟨v,s,r,by
   obtain ⟨A,n,c,rfl⟩:=hv.slice
   exact h.sl _ _ _ _ hc,hv.imp (Cel.tp h e),hr,Cel.tp h t g (o + 1) r ht⟩
theorem RowOf.tp {w w' : World} (h : TP w w') {e : Ty} {v : Value} {s : List Slot} (hr : RowOf (Cel w e) e.sz v s) : RowOf (Cel w' e) e.sz v s:=hr.imp (Cel.tp h e)
def mkv (t : Bool) (k : Nat) : Value:=if t then .string (mtx k) else .int .i64 (k : Int)
structure Marked (w w' : World) (sl : List Slot) (a : Nat) : Prop where
 tp : TP w w'
 far : ∀ b,b < w.heap.size → (∀ p ∈ sl,p.1 ≠ b) → w'.heap[b]? = w.heap[b]?
 off : ∀ b o,b < w.heap.size → (∀ p ∈ sl,¬ (p.1 = b ∧ p.2.1 = o)) → w'.cell? ⟨b,o,none⟩ = w.cell? ⟨b,o,none⟩
 at_ : (sl.map fun p=>(p.1,p.2.1)).Nodup → ∀ j p,sl[j]? = some p → w'.cell? ⟨p.1,p.2.1,none⟩ = some (mkv p.2.2 (a + j))
theorem Marked.nil {w w' : World} (h : Below w.heap.size w w') (a : Nat) : Marked w w' [] a :=
 ⟨TP.of_below h,fun b hb _=>h.block b hb,fun b o hb _=>h.cell (p:=⟨b,o,none⟩) hb,fun _ j p hj=>by simp at hj⟩
theorem TP.trans {w w1 w2 : World} (h : TP w w1) (k : TP w1 w2) : TP w w2 :=
 ⟨⟨k.env.1.trans h.env.1,k.env.2.1.trans h.env.2.1,k.env.2.2.trans h.env.2.2⟩,Nat.le_trans h.size k.size,fun a A n c hc=>k.sl _ _ _ _ (h.sl _ _ _ _ hc),fun a s hc=>by obtain ⟨s',hs⟩:=h.str _ _ hc;exact k.str _ _ hs,fun a i hc=>by obtain ⟨s',hs⟩:=h.int _ _ hc;exact k.int _ _ hs,
  fun a ha hf=>k.fz _ (Nat.lt_of_lt_of_le ha h.size) (h.fz _ ha hf)⟩
def likes (u v : Value) : Prop:=(∃ s s',u = .string s ∧ v = .string s') ∨ ∃ i i',u = .int .i64 i ∧ v = .int .i64 i'
theorem TP.set (w : World) (a : Addr) {u v : Value} (hc : w.cell? a = some u) (hl : likes u v) : TP w (w.setCell a v):=by
 have hs : (w.setCell a v).cell? a = some v:=World.cell?_setCell_same _ _ _ hc
 refine ⟨⟨rfl,rfl,rfl⟩,by simp,fun b A n c hb=>?_,fun b s hb=>?_,fun b i hb=>?_,fun b hb hf=>by simpa using hf⟩
 ·by_cases e : a = b
  ·subst e
   rw [hc] at hb
   rcases hl with ⟨s,s',rfl,_⟩ | ⟨i,i',rfl,_⟩<;>cases hb
  ·rw [World.cell?_setCell_other _ _ _ _ e];exact hb
 ·by_cases e : a = b
  ·subst e
   rw [hc] at hb
   rcases hl with ⟨s,s',rfl,rfl⟩ | ⟨i,i',rfl,_⟩
   ·exact ⟨_,hs⟩
   ·cases hb
  ·exact ⟨s,by rw [World.cell?_setCell_other _ _ _ _ e];exact hb⟩
 ·by_cases e : a = b
  ·subst e
   rw [hc] at hb
   rcases hl with ⟨s,s',rfl,rfl⟩ | ⟨i,i',rfl,rfl⟩
   ·cases hb
   ·exact ⟨_,hs⟩
  ·exact ⟨i,by rw [World.cell?_setCell_other _ _ _ _ e];exact hb⟩
theorem likes_mkv {t : Bool} {u : Value} (k : Nat) (h : (t = true ∧ ∃ s,u = .string s) ∨ (t = false ∧ ∃ i,u = .int .i64 i)) : likes u (mkv t k):=by
 rcases h with ⟨rfl,s,rfl⟩ | ⟨rfl,i,rfl⟩
 ·exact .inl ⟨_,_,rfl,rfl⟩
 ·exact .inr ⟨_,_,rfl,rfl⟩
theorem Marked.one (w : World) {g o : Nat} {t : Bool} {u : Value} (k : Nat) (hc : w.cell? ⟨g,o,none⟩ = some u) (h : (t = true ∧ ∃ s,u = .string s) ∨ (t = false ∧ ∃ i,u = .int .i64 i)) : Marked w (w.setCell ⟨g,o,none⟩ (mkv t k)) [(g,o,t)] k where
 tp:=TP.set w _ hc (likes_mkv k h)
 far:=fun b hb hn=>Below.heap_setCell w _ _ b (fun e=>hn _ (List.mem_singleton.2 rfl) e.symm)
 off:=fun b o' hb hn=>World.cell?_setCell_other _ _ _ _ (fun e=>by
  injection e with e1 e2
  exact hn _ (List.mem_singleton.2 rfl) ⟨e1,e2⟩)
 at_:=fun _ j p hj=>by
  cases j with
  | zero =>
   obtain rfl : (g,o,t) = p:=by simpa using hj
   exact World.cell?_setCell_same _ _ _ hc
  | succ j=>simp at hj
theorem Marked.then {w w1 w2 : World} {s1 s2 : List Slot} {a : Nat} (h : Marked w w1 s1 a) (k : Marked w1 w2 s2 (a + s1.length)) : Marked w w2 (s1 ++ s2) a where
 tp:=h.tp.trans k.tp
 far:=fun b hb hn=>(k.far b (Nat.lt_of_lt_of_le hb h.tp.size) (fun p hp=>hn p (List.mem_append_right _ hp))).trans (h.far b hb (fun p hp=>hn p (List.mem_append_left _ hp)))
 off:=fun b o hb hn=>(k.off b o (Nat.lt_of_lt_of_le hb h.tp.size) (fun p hp=>hn p (List.mem_append_right _ hp))).trans (h.off b o hb (fun p hp=>hn p (List.mem_append_left _ hp)))
 at_:=fun hnd j p hj=>by
  rw [List.map_append,List.nodup_append] at hnd
  obtain ⟨hn1,hn2,hne⟩:=hnd
  rcases Nat.lt_or_ge j s1.length with hlt | hge
  ·rw [List.getElem?_append_left hlt] at hj
   have hp:=List.mem_of_getElem? hj
   have h1:=h.at_ hn1 j p hj
   rw [k.off _ _ (World.block_lt_of_cell? w1 _ h1) (fun q hq e=>hne (p.1,p.2.1) (List.mem_map.2 ⟨p,hp,rfl⟩) (q.1,q.2.1) (List.mem_map.2 ⟨q,hq,rfl⟩) (by rw [e.1,e.2]))]
   exact h1
  ·rw [List.getElem?_append_right hge] at hj
   have:=k.at_ hn2 _ p hj
   rw [show a + s1.length + (j - s1.length) = a + j by omega] at this
   exact this
theorem Marked.below {w w1 w2 : World} {s : List Slot} {a : Nat} (h : Marked w w1 s a) (k : Below w1.heap.size w1 w2) : Marked w w2 s a:=by
 have:=Marked.then h (Marked.nil k (a + s.length))
 rwa [List.append_nil] at this
theorem Marked.more {w wr w2 : World} {s s2 : List Slot} {a K : Nat} (h : Marked w wr s a) (hK : K = a + s.length) (k : Marked wr w2 s2 K) : Marked w w2 (s ++ s2) a:=by
 subst hK
 exact Marked.then h k
theorem Marked.putI {w wr : World} {s : List Slot} {a K g o : Nat} {z : Int} (ki : Int) (h : Marked w wr s a) (hK : K = a + s.length) (hki : ki = (K : Int)) (hc : w.cell? ⟨g,o,none⟩ = some (.int .i64 z)) : Marked w (wr.setCell ⟨g,o,none⟩ (.int .i64 ki)) (s ++ [(g,o,false)]) a:=by
 subst hki
 obtain ⟨z',hz⟩:=h.tp.int _ _ hc
 exact Marked.more h hK (Marked.one _ (t:=false) _ hz (.inr ⟨rfl,_,rfl⟩))
theorem Marked.putS {w wr : World} {s : List Slot} {a K g o : Nat} {z : ByteArray} (h : Marked w wr s a) (hK : K = a + s.length) (hc : w.cell? ⟨g,o,none⟩ = some (.string z)) : Marked w (wr.setCell ⟨g,o,none⟩ (.string (mtx K))) (s ++ [(g,o,true)]) a:=by
 obtain ⟨z',hz⟩:=h.tp.str _ _ hc
 exact Marked.more h hK (Marked.one _ (t:=true) _ hz (.inl ⟨rfl,_,rfl⟩))
theorem TP.fz' {w w' : World} (h : TP w w') {a : Addr} {v : Value} (hc : w.cell? a = some v) (hf : w.frozen? a = false) : w'.frozen? a = false:=h.fz _ (World.block_lt_of_cell? w _ hc) hf
theorem Marked.below_of {B : Nat} {w0 w w' : World} {s : List Slot} {a : Nat} (h : Marked w w' s a) (hs : ∀ p ∈ s,B ≤ p.1) (hb : Below B w0 w) (hB : B ≤ w.heap.size) : Below B w0 w' :=
 ⟨h.tp.env.1.trans hb.os,h.tp.env.2.1.trans hb.tape,h.tp.env.2.2.trans hb.output,Nat.le_trans hb.size h.tp.size,fun k hk=>(h.far k (by omega) (fun p hp e=>by have:=hs p hp;omega)).trans (hb.block k hk)⟩
theorem Marked.kept {w w' : World} {s : List Slot} {a : Nat} (h : Marked w w' s a) : Kept w w' (fun k=>∃ p ∈ s,p.1 = k):=⟨h.tp.size,fun i hi hn=>h.far i hi (fun p hp e=>hn ⟨p,hp,e⟩)⟩
theorem Cel.mem {w : World} : ∀ (t : Ty) (g o : Nat) (sl : List Slot),Cel w t g o sl → ∀ p ∈ sl,∃ v,w.cell? ⟨p.1,p.2.1,none⟩ = some v
 | .nil,_,_,_,hc,p,hp=>by
  obtain rfl : _ = []:=hc
  cases hp
 | .int t,g,o,_,⟨⟨_,hc⟩,hf,r,rfl,ht⟩,p,hp=>by
  rcases List.mem_cons.1 hp with rfl | hp
  ·exact ⟨_,hc⟩
  ·exact Cel.mem t _ _ r ht p hp
 | .str t,g,o,_,⟨⟨_,hc⟩,hf,r,rfl,ht⟩,p,hp=>by
  rcases List.mem_cons.1 hp with rfl | hp
  ·exact ⟨_,hc⟩
  ·exact Cel.mem t _ _ r ht p hp
 | .row e t,g,o,_,⟨v,s,r,hc,hv,rfl,ht⟩,p,hp=>by
  rcases List.mem_append.1 hp with hp | hp
  ·rcases hv with ⟨_,_,rfl⟩ | ⟨g',n,c,_,_,_,ss,_,rfl,h5⟩
   ·cases hp
   ·obtain ⟨l,hl,hpl⟩:=List.mem_flatten.1 hp
    obtain ⟨j,hj⟩:=List.getElem?_of_mem hl
    exact Cel.mem e _ _ l (h5 j l hj) p hpl
  ·exact Cel.mem t _ _ r ht p hp
theorem RowOf.mem {w : World} {e : Ty} {v : Value} {s : List Slot} (hr : RowOf (Cel w e) e.sz v s) (p : Slot) (hp : p ∈ s) : p.1 < w.heap.size:=by
 rcases hr with ⟨_,_,rfl⟩ | ⟨g',n,c,_,_,_,ss,_,rfl,h5⟩
 ·cases hp
 ·obtain ⟨l,hl,hpl⟩:=List.mem_flatten.1 hp
  obtain ⟨j,hj⟩:=List.getElem?_of_mem hl
  obtain ⟨v,hc⟩:=Cel.mem e _ _ l (h5 j l hj) p hpl
  exact World.block_lt_of_cell? w _ hc
theorem RowOf.all {P : Nat → Nat → List Slot → Prop} {sz : Nat} {v : Value} {s : List Slot} (h : RowOf P sz v s) : ∃ (A : Option Addr) (n c : Nat) (ss : List (List Slot)),v = .slice A n c ∧ n ≤ c ∧ n ≤ maxLen ∧ ss.length = n ∧ s = ss.flatten ∧ ∀ j t,ss[j]? = some t → ∃ g,A = some ⟨g,0,none⟩ ∧ P g (j * sz) t:=by
 rcases h with ⟨c,rfl,rfl⟩ | ⟨g,n,c,rfl,h1,h2,ss,h3,rfl,h5⟩
 ·exact ⟨none,0,c,[],rfl,Nat.zero_le _,Nat.zero_le _,rfl,rfl,fun j t hj=>by simp at hj⟩
 ·exact ⟨_,n,c,ss,rfl,h1,h2,h3,rfl,fun j t hj=>⟨g,rfl,h5 j t hj⟩⟩
theorem take_flat {α : Type} {ss : List (List α)} {i : Nat} {t : List α} (h : ss[i]? = some t) : (ss.take (i + 1)).flatten = (ss.take i).flatten ++ t:=by
 obtain ⟨hl,rfl⟩:=List.getElem?_eq_some_iff.1 h
 rw [List.take_succ_eq_append_getElem hl,List.flatten_append]
 simp
theorem flat_le {α : Type} (ss : List (List α)) (i : Nat) : (ss.take i).flatten.length ≤ ss.flatten.length:=by
 have:=List.take_append_drop i ss
 have h2 : ss.flatten.length = (ss.take i).flatten.length + (ss.drop i).flatten.length:=by
  rw [← List.length_append,← List.flatten_append,this]
 omega
end
theorem mText_any (k : Nat) {ki : Int} (hki : ki = (k : Int)) (h1 : 1 ≤ k) (h2 : k ≤ 9000000) (w : World) : Calls Tryz.prog 69 #[.int .i64 ki] w fun e w'=>e = .returned (.string (mtx k)) ∧ Below w.heap.size w w':=by
 subst hki
 obtain ⟨q,hq⟩:=markText_any k h1 (by omega)
 exact OFnExactShapeFirst.laws_markText.calls q _ _ w hq
abbrev tyInt : Ty:=(.int .nil)
abbrev tyString : Ty:=(.str .nil)
abbrev tyIns : Ty:=(.str (.int (.int .nil)))
abbrev tyRecord : Ty:=(.int (.row tyString .nil))
abbrev tyFunc : Ty:=(.int (.row tyString (.row tyString (.row tyString (.row tyInt (.row tyIns .nil))))))
abbrev tyModule : Ty:=(.row tyRecord (.row tyFunc (.row tyInt .nil)))
abbrev tyMark : Ty:=(.str (.row tyInt .nil))
set_option maxHeartbeats 2000000 in
set_option maxRecDepth 100000 in
theorem markIntS_any (v : Value) (s : List Slot) (a : Nat) {ai : Int} (hai : ai = (a : Int)) (w : World) (hs : RowOf (Cel w tyInt) 1 v s) (h1 : 1 ≤ a) (hb : a + s.length ≤ 9000000) :
  Calls Tryz.prog 31 #[v,.int .i64 ai] w fun e w'=>e = .returned (.int .i64 ((a + s.length : Nat) : Int)) ∧ Marked w w' s a:=by
 subst hai
 obtain ⟨A,n,c,ss,rfl,hnc,hcm,hn,rfl,hel⟩:=hs.all
 have HEL:=Mk hel
 have HN:=Mk hn
 have HM:=Mk (show Marked w w (ss.take 0).flatten a from Marked.nil (Below.refl _ _) a)
 have hnm : n ≤ 9223372036854775807:=by unfold maxLen at hcm;omega
 clear hel hn hs hcm hnc
 go_enter Tryz.func31,Tryz.ntmps31
 go_wp2
 go_loopw [1,5] (fun v1 v5 wr=>∃ i K : Nat,i ≤ n ∧ v5 = .int .i64 i ∧ v1 = .int .i64 K ∧ 1 ≤ K ∧ K ≤ 9000000 ∧ Aside0 (K = a + (ss.take i).flatten.length) ∧ Aside0 (Marked w wr (ss.take i).flatten a)) (fun _ v5 _=>n - (intOf v5).toNat)
 case atStart=>exact ⟨0,a,Nat.zero_le _,rfl,rfl,h1,by omega,⟨by simp⟩,HM⟩
 case round =>
  clear HM
  obtain ⟨i,K0,hi,rfl,rfl,hK1,hK2,HK,HM⟩:=hrel
  by_cases hlt : i < n
  ·have hsl:=List.getElem?_eq_getElem (show i < ss.length by have:=HN.out;omega)
   obtain ⟨g,hA,hc⟩:=HEL.out i _ hsl
   subst hA
   generalize ss[i]'(by have:=HN.out;omega) = t at hsl hc
   have HS:=Mk hsl
   rw [Nat.mul_one] at hc
   obtain ⟨⟨z0,hx0⟩,hf0,r0,ht0,hrn⟩:=hc
   obtain rfl : r0 = []:=hrn
   have HT:=Mk (show t = [(g,i,false)] by rw [ht0];first | done | simp)
   clear ht0 hsl
   have HX0:=Mk (show w.cell? ⟨g,i,none⟩ = some (.int .i64 z0) from hx0)
   have HF0:=Mk (show w.frozen? ⟨g,i,none⟩ = false from hf0)
   clear hx0 hf0
   have hle : K0 + (1) ≤ 9000000:=by
    have h1:=take_flat HS.out
    have h2:=flat_le ss (i + 1)
    have h3:=HK.out
    rw [h1,HT.out] at h2
    (try simp only [List.length_append,List.length_cons,List.length_nil,Nat.zero_add] at h2)
    omega
   obtain ⟨y0_,hx0⟩:=HM.out.tp.int _ _ HX0.out
   have hf0:=HM.out.tp.fz' HX0.out HF0.out
   go_wp2
   go_roundw
   case rel =>
    replace HM:=Mk (Marked.putI (K:=K0) ((K0 : Int)) HM.out (by have:=HK.out;(try simp only [List.length_append,List.length_cons,List.length_nil] at this);(try simp only [List.length_append,List.length_cons,List.length_nil]);omega) (by omega) HX0.out)
    exact ⟨i + 1,K0 + 1,by omega,by go_num,by first | rfl | go_num,by omega,by omega,⟨by rw [take_flat HS.out,HT.out];have:=HK.out;(try simp only [List.length_append,List.length_cons,List.length_nil] at this);(try simp only [List.length_append,List.length_cons,List.length_nil]);omega⟩,⟨by rw [take_flat HS.out,HT.out];have:=HM.out;simpa only [List.append_assoc] using this⟩⟩
   case measure=>simp [intOf];omega
  ·have hin : i = ss.length:=by have:=HN.out;omega
   have HL:=Mk hin
   clear hin
   go_wp2
   go_ret
   have e:=HK.out
   subst e
   rw [HL.out,List.take_length] at HM ⊢
   exact ⟨rfl,HM.out⟩
set_option maxHeartbeats 2000000 in
set_option maxRecDepth 100000 in
theorem markStringS_any (v : Value) (s : List Slot) (a : Nat) {ai : Int} (hai : ai = (a : Int)) (w : World) (hs : RowOf (Cel w tyString) 1 v s) (h1 : 1 ≤ a) (hb : a + s.length ≤ 9000000) :
  Calls Tryz.prog 67 #[v,.int .i64 ai] w fun e w'=>e = .returned (.int .i64 ((a + s.length : Nat) : Int)) ∧ Marked w w' s a:=by
 subst hai
 obtain ⟨A,n,c,ss,rfl,hnc,hcm,hn,rfl,hel⟩:=hs.all
 have HEL:=Mk hel
 have HN:=Mk hn
 have HM:=Mk (show Marked w w (ss.take 0).flatten a from Marked.nil (Below.refl _ _) a)
 have hnm : n ≤ 9223372036854775807:=by unfold maxLen at hcm;omega
 clear hel hn hs hcm hnc
 go_enter Tryz.func67,Tryz.ntmps67
 go_wp2
 go_loopw [1,5] (fun v1 v5 wr=>∃ i K : Nat,i ≤ n ∧ v5 = .int .i64 i ∧ v1 = .int .i64 K ∧ 1 ≤ K ∧ K ≤ 9000000 ∧ Aside0 (K = a + (ss.take i).flatten.length) ∧ Aside0 (Marked w wr (ss.take i).flatten a)) (fun _ v5 _=>n - (intOf v5).toNat)
 case atStart=>exact ⟨0,a,Nat.zero_le _,rfl,rfl,h1,by omega,⟨by simp⟩,HM⟩
 case round =>
  clear HM
  obtain ⟨i,K0,hi,rfl,rfl,hK1,hK2,HK,HM⟩:=hrel
  by_cases hlt : i < n
  ·have hsl:=List.getElem?_eq_getElem (show i < ss.length by have:=HN.out;omega)
   obtain ⟨g,hA,hc⟩:=HEL.out i _ hsl
   subst hA
   generalize ss[i]'(by have:=HN.out;omega) = t at hsl hc
   have HS:=Mk hsl
   rw [Nat.mul_one] at hc
   obtain ⟨⟨z0,hx0⟩,hf0,r0,ht0,hrn⟩:=hc
   obtain rfl : r0 = []:=hrn
   have HT:=Mk (show t = [(g,i,true)] by rw [ht0];first | done | simp)
   clear ht0 hsl
   have HX0:=Mk (show w.cell? ⟨g,i,none⟩ = some (.string z0) from hx0)
   have HF0:=Mk (show w.frozen? ⟨g,i,none⟩ = false from hf0)
   clear hx0 hf0
   have hle : K0 + (1) ≤ 9000000:=by
    have h1:=take_flat HS.out
    have h2:=flat_le ss (i + 1)
    have h3:=HK.out
    rw [h1,HT.out] at h2
    (try simp only [List.length_append,List.length_cons,List.length_nil,Nat.zero_add] at h2)
    omega
   go_wp2_with fail
   refine (mText_any (K0) (by omega) (by omega) (by omega) _).mono ?_
   rintro e w1 ⟨rfl,hb⟩
   replace HM:=Mk (HM.out.below hb)
   clear hb
   obtain ⟨y0_,hx0⟩:=HM.out.tp.str _ _ HX0.out
   have hf0:=HM.out.tp.fz' HX0.out HF0.out
   go_wp2
   go_roundw
   case rel =>
    replace HM:=Mk (Marked.putS (K:=K0) HM.out (by have:=HK.out;(try simp only [List.length_append,List.length_cons,List.length_nil] at this);(try simp only [List.length_append,List.length_cons,List.length_nil]);omega) HX0.out)
    exact ⟨i + 1,K0 + 1,by omega,by go_num,by first | rfl | go_num,by omega,by omega,⟨by rw [take_flat HS.out,HT.out];have:=HK.out;(try simp only [List.length_append,List.length_cons,List.length_nil] at this);(try simp only [List.length_append,List.length_cons,List.length_nil]);omega⟩,⟨by rw [take_flat HS.out,HT.out];have:=HM.out;simpa only [List.append_assoc] using this⟩⟩
   case measure=>simp [intOf];omega
  ·have hin : i = ss.length:=by have:=HN.out;omega
   have HL:=Mk hin
   clear hin
   go_wp2
   go_ret
   have e:=HK.out
   subst e
   rw [HL.out,List.take_length] at HM ⊢
   exact ⟨rfl,HM.out⟩
set_option maxHeartbeats 2000000 in
set_option maxRecDepth 100000 in
theorem markInsS_any (v : Value) (s : List Slot) (a : Nat) {ai : Int} (hai : ai = (a : Int)) (w : World) (hs : RowOf (Cel w tyIns) 3 v s) (h1 : 1 ≤ a) (hb : a + s.length ≤ 9000000) :
  Calls Tryz.prog 68 #[v,.int .i64 ai] w fun e w'=>e = .returned (.int .i64 ((a + s.length : Nat) : Int)) ∧ Marked w w' s a:=by
 subst hai
 obtain ⟨A,n,c,ss,rfl,hnc,hcm,hn,rfl,hel⟩:=hs.all
 have HEL:=Mk hel
 have HN:=Mk hn
 have HM:=Mk (show Marked w w (ss.take 0).flatten a from Marked.nil (Below.refl _ _) a)
 have hnm : n ≤ 9223372036854775807:=by unfold maxLen at hcm;omega
 clear hel hn hs hcm hnc
 go_enter Tryz.func68,Tryz.ntmps68
 go_wp2
 go_loopw [1,5] (fun v1 v5 wr=>∃ i K : Nat,i ≤ n ∧ v5 = .int .i64 i ∧ v1 = .int .i64 K ∧ 1 ≤ K ∧ K ≤ 9000000 ∧ Aside0 (K = a + (ss.take i).flatten.length) ∧ Aside0 (Marked w wr (ss.take i).flatten a)) (fun _ v5 _=>n - (intOf v5).toNat)
 case atStart=>exact ⟨0,a,Nat.zero_le _,rfl,rfl,h1,by omega,⟨by simp⟩,HM⟩
 case round =>
  clear HM
  obtain ⟨i,K0,hi,rfl,rfl,hK1,hK2,HK,HM⟩:=hrel
  by_cases hlt : i < n
  ·have hsl:=List.getElem?_eq_getElem (show i < ss.length by have:=HN.out;omega)
   obtain ⟨g,hA,hc⟩:=HEL.out i _ hsl
   subst hA
   generalize ss[i]'(by have:=HN.out;omega) = t at hsl hc
   have HS:=Mk hsl
   obtain ⟨⟨z0,hx0⟩,hf0,r0,ht0,⟨z1,hx1⟩,hf1,r1,ht1,⟨z2,hx2⟩,hf2,r2,ht2,hrn⟩:=hc
   obtain rfl : r2 = []:=hrn
   subst ht2
   subst ht1
   have HT:=Mk (show t = [(g,i * 3,true)] ++ [(g,i * 3 + 1,false)] ++ [(g,i * 3 + 2,false)] by rw [ht0];first | done | simp)
   clear ht0 hsl
   have HX0:=Mk (show w.cell? ⟨g,i * 3,none⟩ = some (.string z0) from hx0)
   have HF0:=Mk (show w.frozen? ⟨g,i * 3,none⟩ = false from hf0)
   clear hx0 hf0
   have HX1:=Mk (show w.cell? ⟨g,i * 3 + 1,none⟩ = some (.int .i64 z1) from hx1)
   have HF1:=Mk (show w.frozen? ⟨g,i * 3 + 1,none⟩ = false from hf1)
   clear hx1 hf1
   have HX2:=Mk (show w.cell? ⟨g,i * 3 + 2,none⟩ = some (.int .i64 z2) from hx2)
   have HF2:=Mk (show w.frozen? ⟨g,i * 3 + 2,none⟩ = false from hf2)
   clear hx2 hf2
   have hle : K0 + (1 + 1 + 1) ≤ 9000000:=by
    have h1:=take_flat HS.out
    have h2:=flat_le ss (i + 1)
    have h3:=HK.out
    rw [h1,HT.out] at h2
    (try simp only [List.length_append,List.length_cons,List.length_nil,Nat.zero_add] at h2)
    omega
   go_wp2_with fail
   refine (mText_any (K0) (by omega) (by omega) (by omega) _).mono ?_
   rintro e w1 ⟨rfl,hb⟩
   replace HM:=Mk (HM.out.below hb)
   clear hb
   obtain ⟨y0_,hx0⟩:=HM.out.tp.str _ _ HX0.out
   have hf0:=HM.out.tp.fz' HX0.out HF0.out
   obtain ⟨y1_,hx1⟩:=HM.out.tp.int _ _ HX1.out
   have hf1:=HM.out.tp.fz' HX1.out HF1.out
   obtain ⟨y2_,hx2⟩:=HM.out.tp.int _ _ HX2.out
   have hf2:=HM.out.tp.fz' HX2.out HF2.out
   go_wp2
   go_roundw
   case rel =>
    replace HM:=Mk (Marked.putS (K:=K0) HM.out (by have:=HK.out;(try simp only [List.length_append,List.length_cons,List.length_nil] at this);(try simp only [List.length_append,List.length_cons,List.length_nil]);omega) HX0.out)
    replace HM:=Mk (Marked.putI (K:=K0 + 1) ((K0 : Int) + 1) HM.out (by have:=HK.out;(try simp only [List.length_append,List.length_cons,List.length_nil] at this);(try simp only [List.length_append,List.length_cons,List.length_nil]);omega) (by omega) HX1.out)
    replace HM:=Mk (Marked.putI (K:=K0 + 2) ((K0 : Int) + 1 + 1) HM.out (by have:=HK.out;(try simp only [List.length_append,List.length_cons,List.length_nil] at this);(try simp only [List.length_append,List.length_cons,List.length_nil]);omega) (by omega) HX2.out)
    exact ⟨i + 1,K0 + 3,by omega,by go_num,by first | rfl | go_num,by omega,by omega,⟨by rw [take_flat HS.out,HT.out];have:=HK.out;(try simp only [List.length_append,List.length_cons,List.length_nil] at this);(try simp only [List.length_append,List.length_cons,List.length_nil]);omega⟩,⟨by rw [take_flat HS.out,HT.out];have:=HM.out;simpa only [List.append_assoc] using this⟩⟩
   case measure=>simp [intOf];omega
  ·have hin : i = ss.length:=by have:=HN.out;omega
   have HL:=Mk hin
   clear hin
   go_wp2
   go_ret
   have e:=HK.out
   subst e
   rw [HL.out,List.take_length] at HM ⊢
   exact ⟨rfl,HM.out⟩
set_option maxHeartbeats 2000000 in
set_option maxRecDepth 100000 in
theorem markRecordS_any (v : Value) (s : List Slot) (a : Nat) {ai : Int} (hai : ai = (a : Int)) (w : World) (hs : RowOf (Cel w tyRecord) 2 v s) (h1 : 1 ≤ a) (hb : a + s.length ≤ 9000000) :
  Calls Tryz.prog 29 #[v,.int .i64 ai] w fun e w'=>e = .returned (.int .i64 ((a + s.length : Nat) : Int)) ∧ Marked w w' s a:=by
 subst hai
 obtain ⟨A,n,c,ss,rfl,hnc,hcm,hn,rfl,hel⟩:=hs.all
 have HEL:=Mk hel
 have HN:=Mk hn
 have HM:=Mk (show Marked w w (ss.take 0).flatten a from Marked.nil (Below.refl _ _) a)
 have hnm : n ≤ 9223372036854775807:=by unfold maxLen at hcm;omega
 clear hel hn hs hcm hnc
 go_enter Tryz.func29,Tryz.ntmps29
 go_wp2
 go_loopw [1,5] (fun v1 v5 wr=>∃ i K : Nat,i ≤ n ∧ v5 = .int .i64 i ∧ v1 = .int .i64 K ∧ 1 ≤ K ∧ K ≤ 9000000 ∧ Aside0 (K = a + (ss.take i).flatten.length) ∧ Aside0 (Marked w wr (ss.take i).flatten a)) (fun _ v5 _=>n - (intOf v5).toNat)
 case atStart=>exact ⟨0,a,Nat.zero_le _,rfl,rfl,h1,by omega,⟨by simp⟩,HM⟩
 case round =>
  clear HM
  obtain ⟨i,K0,hi,rfl,rfl,hK1,hK2,HK,HM⟩:=hrel
  by_cases hlt : i < n
  ·have hsl:=List.getElem?_eq_getElem (show i < ss.length by have:=HN.out;omega)
   obtain ⟨g,hA,hc⟩:=HEL.out i _ hsl
   subst hA
   generalize ss[i]'(by have:=HN.out;omega) = t at hsl hc
   have HS:=Mk hsl
   obtain ⟨⟨z0,hx0⟩,hf0,r0,ht0,v1,s1,r1,hx1,hv1,ht1,hrn⟩:=hc
   obtain rfl : r1 = []:=hrn
   subst ht1
   have HT:=Mk (show t = [(g,i * 2,false)] ++ s1 by rw [ht0];first | done | simp)
   clear ht0 hsl
   have HX0:=Mk (show w.cell? ⟨g,i * 2,none⟩ = some (.int .i64 z0) from hx0)
   have HF0:=Mk (show w.frozen? ⟨g,i * 2,none⟩ = false from hf0)
   clear hx0 hf0
   obtain ⟨A1,n1,c1,rfl⟩:=hv1.slice
   have HX1:=Mk (show w.cell? ⟨g,i * 2 + 1,none⟩ = some (.slice A1 n1 c1) from hx1)
   have HV1:=Mk hv1
   clear hx1 hv1
   have hle : K0 + (1 + s1.length) ≤ 9000000:=by
    have h1:=take_flat HS.out
    have h2:=flat_le ss (i + 1)
    have h3:=HK.out
    rw [h1,HT.out] at h2
    (try simp only [List.length_append,List.length_cons,List.length_nil,Nat.zero_add] at h2)
    omega
   obtain ⟨y0_,hx0⟩:=HM.out.tp.int _ _ HX0.out
   have hf0:=HM.out.tp.fz' HX0.out HF0.out
   have hx1:=HM.out.tp.sl _ _ _ _ HX1.out
   go_wp2_with fail
   replace HM:=Mk (Marked.putI (K:=K0) ((K0 : Int)) HM.out (by have:=HK.out;(try simp only [List.length_append,List.length_cons,List.length_nil] at this);(try simp only [List.length_append,List.length_cons,List.length_nil]);omega) (by omega) HX0.out)
   clear hx0 hf0 hx1
   refine (markStringS_any _ s1 (K0 + 1) (by omega) _ (RowOf.tp HM.out.tp HV1.out) (by omega) (by omega)).mono ?_
   rintro e w1 ⟨rfl,hm⟩
   replace HM:=Mk (Marked.more HM.out (K:=K0 + 1) (by have:=HK.out;(try simp only [List.length_append,List.length_cons,List.length_nil] at this);(try simp only [List.length_append,List.length_cons,List.length_nil]);omega) hm)
   obtain ⟨K1,hK1⟩ : ∃ K_ : Nat,K_ = K0 + 1 + s1.length:=⟨_,rfl⟩
   rw [← hK1]
   have HE1:=Mk hK1
   replace HK:=Mk (show K1 = a + ((ss.take i).flatten ++ [(g,i * 2,false)] ++ s1).length by have:=HK.out;(try simp only [List.length_append,List.length_cons,List.length_nil] at this);(try simp only [List.length_append,List.length_cons,List.length_nil]);omega)
   have lK1 : K1 ≤ 9000000:=by omega
   have mK1 : 1 ≤ K1:=by omega
   clear hK1 hm
   go_wp2
   go_roundw
   case rel =>
    exact ⟨i + 1,K1,by omega,by go_num,by first | rfl | go_num,by omega,by omega,⟨by rw [take_flat HS.out,HT.out];have:=HK.out;(try simp only [List.length_append,List.length_cons,List.length_nil] at this);(try simp only [List.length_append,List.length_cons,List.length_nil]);omega⟩,⟨by rw [take_flat HS.out,HT.out];have:=HM.out;simpa only [List.append_assoc] using this⟩⟩
   case measure=>simp [intOf];omega
  ·have hin : i = ss.length:=by have:=HN.out;omega
   have HL:=Mk hin
   clear hin
   go_wp2
   go_ret
   have e:=HK.out
   subst e
   rw [HL.out,List.take_length] at HM ⊢
   exact ⟨rfl,HM.out⟩
set_option maxHeartbeats 2000000 in
set_option maxRecDepth 100000 in
theorem markFuncS_any (v : Value) (s : List Slot) (a : Nat) {ai : Int} (hai : ai = (a : Int)) (w : World) (hs : RowOf (Cel w tyFunc) 6 v s) (h1 : 1 ≤ a) (hb : a + s.length ≤ 9000000) :
  Calls Tryz.prog 30 #[v,.int .i64 ai] w fun e w'=>e = .returned (.int .i64 ((a + s.length : Nat) : Int)) ∧ Marked w w' s a:=by
 subst hai
 obtain ⟨A,n,c,ss,rfl,hnc,hcm,hn,rfl,hel⟩:=hs.all
 have HEL:=Mk hel
 have HN:=Mk hn
 have HM:=Mk (show Marked w w (ss.take 0).flatten a from Marked.nil (Below.refl _ _) a)
 have hnm : n ≤ 9223372036854775807:=by unfold maxLen at hcm;omega
 clear hel hn hs hcm hnc
 go_enter Tryz.func30,Tryz.ntmps30
 go_wp2
 go_loopw [1,5] (fun v1 v5 wr=>∃ i K : Nat,i ≤ n ∧ v5 = .int .i64 i ∧ v1 = .int .i64 K ∧ 1 ≤ K ∧ K ≤ 9000000 ∧ Aside0 (K = a + (ss.take i).flatten.length) ∧ Aside0 (Marked w wr (ss.take i).flatten a)) (fun _ v5 _=>n - (intOf v5).toNat)
 case atStart=>exact ⟨0,a,Nat.zero_le _,rfl,rfl,h1,by omega,⟨by simp⟩,HM⟩
 case round =>
  clear HM
  obtain ⟨i,K0,hi,rfl,rfl,hK1,hK2,HK,HM⟩:=hrel
  by_cases hlt : i < n
  ·have hsl:=List.getElem?_eq_getElem (show i < ss.length by have:=HN.out;omega)
   obtain ⟨g,hA,hc⟩:=HEL.out i _ hsl
   subst hA
   generalize ss[i]'(by have:=HN.out;omega) = t at hsl hc
   have HS:=Mk hsl
   obtain ⟨⟨z0,hx0⟩,hf0,r0,ht0,v1,s1,r1,hx1,hv1,ht1,v2,s2,r2,hx2,hv2,ht2,v3,s3,r3,hx3,hv3,ht3,v4,s4,r4,hx4,hv4,ht4,v5,s5,r5,hx5,hv5,ht5,hrn⟩:=hc
   obtain rfl : r5 = []:=hrn
   subst ht5
   subst ht4
   subst ht3
   subst ht2
   subst ht1
   have HT:=Mk (show t = [(g,i * 6,false)] ++ s1 ++ s2 ++ s3 ++ s4 ++ s5 by rw [ht0];first | done | simp)
   clear ht0 hsl
   have HX0:=Mk (show w.cell? ⟨g,i * 6,none⟩ = some (.int .i64 z0) from hx0)
   have HF0:=Mk (show w.frozen? ⟨g,i * 6,none⟩ = false from hf0)
   clear hx0 hf0
   obtain ⟨A1,n1,c1,rfl⟩:=hv1.slice
   have HX1:=Mk (show w.cell? ⟨g,i * 6 + 1,none⟩ = some (.slice A1 n1 c1) from hx1)
   have HV1:=Mk hv1
   clear hx1 hv1
   obtain ⟨A2,n2,c2,rfl⟩:=hv2.slice
   have HX2:=Mk (show w.cell? ⟨g,i * 6 + 2,none⟩ = some (.slice A2 n2 c2) from hx2)
   have HV2:=Mk hv2
   clear hx2 hv2
   obtain ⟨A3,n3,c3,rfl⟩:=hv3.slice
   have HX3:=Mk (show w.cell? ⟨g,i * 6 + 3,none⟩ = some (.slice A3 n3 c3) from hx3)
   have HV3:=Mk hv3
   clear hx3 hv3
   obtain ⟨A4,n4,c4,rfl⟩:=hv4.slice
   have HX4:=Mk (show w.cell? ⟨g,i * 6 + 4,none⟩ = some (.slice A4 n4 c4) from hx4)
   have HV4:=Mk hv4
   clear hx4 hv4
   obtain ⟨A5,n5,c5,rfl⟩:=hv5.slice
   have HX5:=Mk (show w.cell? ⟨g,i * 6 + 5,none⟩ = some (.slice A5 n5 c5) from hx5)
   have HV5:=Mk hv5
   clear hx5 hv5
   have hle : K0 + (1 + s1.length + s2.length + s3.length + s4.length + s5.length) ≤ 9000000:=by
    have h1:=take_flat HS.out
    have h2:=flat_le ss (i + 1)
    have h3:=HK.out
    rw [h1,HT.out] at h2
    (try simp only [List.length_append,List.length_cons,List.length_nil,Nat.zero_add] at h2)
    omega
   obtain ⟨y0_,hx0⟩:=HM.out.tp.int _ _ HX0.out
   have hf0:=HM.out.tp.fz' HX0.out HF0.out
   have hx1:=HM.out.tp.sl _ _ _ _ HX1.out
   go_wp2_with fail
   replace HM:=Mk (Marked.putI (K:=K0) ((K0 : Int)) HM.out (by have:=HK.out;(try simp only [List.length_append,List.length_cons,List.length_nil] at this);(try simp only [List.length_append,List.length_cons,List.length_nil]);omega) (by omega) HX0.out)
   clear hx0 hf0 hx1
   refine (markStringS_any _ s1 (K0 + 1) (by omega) _ (RowOf.tp HM.out.tp HV1.out) (by omega) (by omega)).mono ?_
   rintro e w1 ⟨rfl,hm⟩
   replace HM:=Mk (Marked.more HM.out (K:=K0 + 1) (by have:=HK.out;(try simp only [List.length_append,List.length_cons,List.length_nil] at this);(try simp only [List.length_append,List.length_cons,List.length_nil]);omega) hm)
   obtain ⟨K1,hK1⟩ : ∃ K_ : Nat,K_ = K0 + 1 + s1.length:=⟨_,rfl⟩
   rw [← hK1]
   have HE1:=Mk hK1
   replace HK:=Mk (show K1 = a + ((ss.take i).flatten ++ [(g,i * 6,false)] ++ s1).length by have:=HK.out;(try simp only [List.length_append,List.length_cons,List.length_nil] at this);(try simp only [List.length_append,List.length_cons,List.length_nil]);omega)
   have lK1 : K1 ≤ 9000000:=by omega
   have mK1 : 1 ≤ K1:=by omega
   clear hK1 hm
   replace hle : K1 + (s2.length + s3.length + s4.length + s5.length) ≤ 9000000:=by have:=HE1.out;omega
   have hx2:=HM.out.tp.sl _ _ _ _ HX2.out
   go_wp2_with fail
   clear hx2
   refine (markStringS_any _ s2 (K1) (by omega) _ (RowOf.tp HM.out.tp HV2.out) (by omega) (by omega)).mono ?_
   rintro e w2 ⟨rfl,hm⟩
   replace HM:=Mk (Marked.more HM.out (K:=K1) (by have:=HK.out;(try simp only [List.length_append,List.length_cons,List.length_nil] at this);(try simp only [List.length_append,List.length_cons,List.length_nil]);omega) hm)
   obtain ⟨K2,hK2⟩ : ∃ K_ : Nat,K_ = K1 + s2.length:=⟨_,rfl⟩
   rw [← hK2]
   have HE2:=Mk hK2
   replace HK:=Mk (show K2 = a + ((ss.take i).flatten ++ [(g,i * 6,false)] ++ s1 ++ s2).length by have:=HK.out;(try simp only [List.length_append,List.length_cons,List.length_nil] at this);(try simp only [List.length_append,List.length_cons,List.length_nil]);omega)
   have lK2 : K2 ≤ 9000000:=by omega
   have mK2 : 1 ≤ K2:=by omega
   clear hK2 hm
   replace hle : K2 + (s3.length + s4.length + s5.length) ≤ 9000000:=by have:=HE2.out;omega
   have hx3:=HM.out.tp.sl _ _ _ _ HX3.out
   go_wp2_with fail
   clear hx3
   refine (markStringS_any _ s3 (K2) (by omega) _ (RowOf.tp HM.out.tp HV3.out) (by omega) (by omega)).mono ?_
   rintro e w3 ⟨rfl,hm⟩
   replace HM:=Mk (Marked.more HM.out (K:=K2) (by have:=HK.out;(try simp only [List.length_append,List.length_cons,List.length_nil] at this);(try simp only [List.length_append,List.length_cons,List.length_nil]);omega) hm)
   obtain ⟨K3,hK3⟩ : ∃ K_ : Nat,K_ = K2 + s3.length:=⟨_,rfl⟩
   rw [← hK3]
   have HE3:=Mk hK3
   replace HK:=Mk (show K3 = a + ((ss.take i).flatten ++ [(g,i * 6,false)] ++ s1 ++ s2 ++ s3).length by have:=HK.out;(try simp only [List.length_append,List.length_cons,List.length_nil] at this);(try simp only [List.length_append,List.length_cons,List.length_nil]);omega)
   have lK3 : K3 ≤ 9000000:=by omega
   have mK3 : 1 ≤ K3:=by omega
   clear hK3 hm
   replace hle : K3 + (s4.length + s5.length) ≤ 9000000:=by have:=HE3.out;omega
   have hx4:=HM.out.tp.sl _ _ _ _ HX4.out
   go_wp2_with fail
   clear hx4
   refine (markIntS_any _ s4 (K3) (by omega) _ (RowOf.tp HM.out.tp HV4.out) (by omega) (by omega)).mono ?_
   rintro e w4 ⟨rfl,hm⟩
   replace HM:=Mk (Marked.more HM.out (K:=K3) (by have:=HK.out;(try simp only [List.length_append,List.length_cons,List.length_nil] at this);(try simp only [List.length_append,List.length_cons,List.length_nil]);omega) hm)
   obtain ⟨K4,hK4⟩ : ∃ K_ : Nat,K_ = K3 + s4.length:=⟨_,rfl⟩
   rw [← hK4]
   have HE4:=Mk hK4
   replace HK:=Mk (show K4 = a + ((ss.take i).flatten ++ [(g,i * 6,false)] ++ s1 ++ s2 ++ s3 ++ s4).length by have:=HK.out;(try simp only [List.length_append,List.length_cons,List.length_nil] at this);(try simp only [List.length_append,List.length_cons,List.length_nil]);omega)
   have lK4 : K4 ≤ 9000000:=by omega
   have mK4 : 1 ≤ K4:=by omega
   clear hK4 hm
   replace hle : K4 + (s5.length) ≤ 9000000:=by have:=HE4.out;omega
   have hx5:=HM.out.tp.sl _ _ _ _ HX5.out
   go_wp2_with fail
   clear hx5
   refine (markInsS_any _ s5 (K4) (by omega) _ (RowOf.tp HM.out.tp HV5.out) (by omega) (by omega)).mono ?_
   rintro e w5 ⟨rfl,hm⟩
   replace HM:=Mk (Marked.more HM.out (K:=K4) (by have:=HK.out;(try simp only [List.length_append,List.length_cons,List.length_nil] at this);(try simp only [List.length_append,List.length_cons,List.length_nil]);omega) hm)
   obtain ⟨K5,hK5⟩ : ∃ K_ : Nat,K_ = K4 + s5.length:=⟨_,rfl⟩
   rw [← hK5]
   have HE5:=Mk hK5
   replace HK:=Mk (show K5 = a + ((ss.take i).flatten ++ [(g,i * 6,false)] ++ s1 ++ s2 ++ s3 ++ s4 ++ s5).length by have:=HK.out;(try simp only [List.length_append,List.length_cons,List.length_nil] at this);(try simp only [List.length_append,List.length_cons,List.length_nil]);omega)
   have lK5 : K5 ≤ 9000000:=by omega
   have mK5 : 1 ≤ K5:=by omega
   clear hK5 hm
   go_wp2
   go_roundw
   case rel =>
    exact ⟨i + 1,K5,by omega,by go_num,by first | rfl | go_num,by omega,by omega,⟨by rw [take_flat HS.out,HT.out];have:=HK.out;(try simp only [List.length_append,List.length_cons,List.length_nil] at this);(try simp only [List.length_append,List.length_cons,List.length_nil]);omega⟩,⟨by rw [take_flat HS.out,HT.out];have:=HM.out;simpa only [List.append_assoc] using this⟩⟩
   case measure=>simp [intOf];omega
  ·have hin : i = ss.length:=by have:=HN.out;omega
   have HL:=Mk hin
   clear hin
   go_wp2
   go_ret
   have e:=HK.out
   subst e
   rw [HL.out,List.take_length] at HM ⊢
   exact ⟨rfl,HM.out⟩
set_option maxHeartbeats 2000000 in
set_option maxRecDepth 100000 in
theorem markModuleS_any (v : Value) (s : List Slot) (a : Nat) {ai : Int} (hai : ai = (a : Int)) (w : World) (hs : RowOf (Cel w tyModule) 3 v s) (h1 : 1 ≤ a) (hb : a + s.length ≤ 9000000) :
  Calls Tryz.prog 11 #[v,.int .i64 ai] w fun e w'=>e = .returned (.int .i64 ((a + s.length : Nat) : Int)) ∧ Marked w w' s a:=by
 subst hai
 obtain ⟨A,n,c,ss,rfl,hnc,hcm,hn,rfl,hel⟩:=hs.all
 have HEL:=Mk hel
 have HN:=Mk hn
 have HM:=Mk (show Marked w w (ss.take 0).flatten a from Marked.nil (Below.refl _ _) a)
 have hnm : n ≤ 9223372036854775807:=by unfold maxLen at hcm;omega
 clear hel hn hs hcm hnc
 go_enter Tryz.func11,Tryz.ntmps11
 go_wp2
 go_loopw [1,5] (fun v1 v5 wr=>∃ i K : Nat,i ≤ n ∧ v5 = .int .i64 i ∧ v1 = .int .i64 K ∧ 1 ≤ K ∧ K ≤ 9000000 ∧ Aside0 (K = a + (ss.take i).flatten.length) ∧ Aside0 (Marked w wr (ss.take i).flatten a)) (fun _ v5 _=>n - (intOf v5).toNat)
 case atStart=>exact ⟨0,a,Nat.zero_le _,rfl,rfl,h1,by omega,⟨by simp⟩,HM⟩
 case round =>
  clear HM
  obtain ⟨i,K0,hi,rfl,rfl,hK1,hK2,HK,HM⟩:=hrel
  by_cases hlt : i < n
  ·have hsl:=List.getElem?_eq_getElem (show i < ss.length by have:=HN.out;omega)
   obtain ⟨g,hA,hc⟩:=HEL.out i _ hsl
   subst hA
   generalize ss[i]'(by have:=HN.out;omega) = t at hsl hc
   have HS:=Mk hsl
   obtain ⟨v0,s0,r0,hx0,hv0,ht0,v1,s1,r1,hx1,hv1,ht1,v2,s2,r2,hx2,hv2,ht2,hrn⟩:=hc
   obtain rfl : r2 = []:=hrn
   subst ht2
   subst ht1
   have HT:=Mk (show t = s0 ++ s1 ++ s2 by rw [ht0];first | done | simp)
   clear ht0 hsl
   obtain ⟨A0,n0,c0,rfl⟩:=hv0.slice
   have HX0:=Mk (show w.cell? ⟨g,i * 3,none⟩ = some (.slice A0 n0 c0) from hx0)
   have HV0:=Mk hv0
   clear hx0 hv0
   obtain ⟨A1,n1,c1,rfl⟩:=hv1.slice
   have HX1:=Mk (show w.cell? ⟨g,i * 3 + 1,none⟩ = some (.slice A1 n1 c1) from hx1)
   have HV1:=Mk hv1
   clear hx1 hv1
   obtain ⟨A2,n2,c2,rfl⟩:=hv2.slice
   have HX2:=Mk (show w.cell? ⟨g,i * 3 + 2,none⟩ = some (.slice A2 n2 c2) from hx2)
   have HV2:=Mk hv2
   clear hx2 hv2
   have hle : K0 + (s0.length + s1.length + s2.length) ≤ 9000000:=by
    have h1:=take_flat HS.out
    have h2:=flat_le ss (i + 1)
    have h3:=HK.out
    rw [h1,HT.out] at h2
    (try simp only [List.length_append,List.length_cons,List.length_nil,Nat.zero_add] at h2)
    omega
   have hx0:=HM.out.tp.sl _ _ _ _ HX0.out
   go_wp2_with fail
   clear hx0
   refine (markRecordS_any _ s0 (K0) (by omega) _ (RowOf.tp HM.out.tp HV0.out) (by omega) (by omega)).mono ?_
   rintro e w1 ⟨rfl,hm⟩
   replace HM:=Mk (Marked.more HM.out (K:=K0) (by have:=HK.out;(try simp only [List.length_append,List.length_cons,List.length_nil] at this);(try simp only [List.length_append,List.length_cons,List.length_nil]);omega) hm)
   obtain ⟨K1,hK1⟩ : ∃ K_ : Nat,K_ = K0 + s0.length:=⟨_,rfl⟩
   rw [← hK1]
   have HE1:=Mk hK1
   replace HK:=Mk (show K1 = a + ((ss.take i).flatten ++ s0).length by have:=HK.out;(try simp only [List.length_append,List.length_cons,List.length_nil] at this);(try simp only [List.length_append,List.length_cons,List.length_nil]);omega)
   have lK1 : K1 ≤ 9000000:=by omega
   have mK1 : 1 ≤ K1:=by omega
   clear hK1 hm
   replace hle : K1 + (s1.length + s2.length) ≤ 9000000:=by have:=HE1.out;omega
   have hx1:=HM.out.tp.sl _ _ _ _ HX1.out
   go_wp2_with fail
   clear hx1
   refine (markFuncS_any _ s1 (K1) (by omega) _ (RowOf.tp HM.out.tp HV1.out) (by omega) (by omega)).mono ?_
   rintro e w2 ⟨rfl,hm⟩
   replace HM:=Mk (Marked.more HM.out (K:=K1) (by have:=HK.out;(try simp only [List.length_append,List.length_cons,List.length_nil] at this);(try simp only [List.length_append,List.length_cons,List.length_nil]);omega) hm)
   obtain ⟨K2,hK2⟩ : ∃ K_ : Nat,K_ = K1 + s1.length:=⟨_,rfl⟩
   rw [← hK2]
   have HE2:=Mk hK2
   replace HK:=Mk (show K2 = a + ((ss.take i).flatten ++ s0 ++ s1).length by have:=HK.out;(try simp only [List.length_append,List.length_cons,List.length_nil] at this);(try simp only [List.length_append,List.length_cons,List.length_nil]);omega)
   have lK2 : K2 ≤ 9000000:=by omega
   have mK2 : 1 ≤ K2:=by omega
   clear hK2 hm
   replace hle : K2 + (s2.length) ≤ 9000000:=by have:=HE2.out;omega
   have hx2:=HM.out.tp.sl _ _ _ _ HX2.out
   go_wp2_with fail
   clear hx2
   refine (markIntS_any _ s2 (K2) (by omega) _ (RowOf.tp HM.out.tp HV2.out) (by omega) (by omega)).mono ?_
   rintro e w3 ⟨rfl,hm⟩
   replace HM:=Mk (Marked.more HM.out (K:=K2) (by have:=HK.out;(try simp only [List.length_append,List.length_cons,List.length_nil] at this);(try simp only [List.length_append,List.length_cons,List.length_nil]);omega) hm)
   obtain ⟨K3,hK3⟩ : ∃ K_ : Nat,K_ = K2 + s2.length:=⟨_,rfl⟩
   rw [← hK3]
   have HE3:=Mk hK3
   replace HK:=Mk (show K3 = a + ((ss.take i).flatten ++ s0 ++ s1 ++ s2).length by have:=HK.out;(try simp only [List.length_append,List.length_cons,List.length_nil] at this);(try simp only [List.length_append,List.length_cons,List.length_nil]);omega)
   have lK3 : K3 ≤ 9000000:=by omega
   have mK3 : 1 ≤ K3:=by omega
   clear hK3 hm
   go_wp2
   go_roundw
   case rel =>
    exact ⟨i + 1,K3,by omega,by go_num,by first | rfl | go_num,by omega,by omega,⟨by rw [take_flat HS.out,HT.out];have:=HK.out;(try simp only [List.length_append,List.length_cons,List.length_nil] at this);(try simp only [List.length_append,List.length_cons,List.length_nil]);omega⟩,⟨by rw [take_flat HS.out,HT.out];have:=HM.out;simpa only [List.append_assoc] using this⟩⟩
   case measure=>simp [intOf];omega
  ·have hin : i = ss.length:=by have:=HN.out;omega
   have HL:=Mk hin
   clear hin
   go_wp2
   go_ret
   have e:=HK.out
   subst e
   rw [HL.out,List.take_length] at HM ⊢
   exact ⟨rfl,HM.out⟩
set_option maxHeartbeats 2000000 in
set_option maxRecDepth 100000 in
theorem markMarkS_any (v : Value) (s : List Slot) (a : Nat) {ai : Int} (hai : ai = (a : Int)) (w : World) (hs : RowOf (Cel w tyMark) 2 v s) (h1 : 1 ≤ a) (hb : a + s.length ≤ 9000000) :
  Calls Tryz.prog 32 #[v,.int .i64 ai] w fun e w'=>e = .returned (.int .i64 ((a + s.length : Nat) : Int)) ∧ Marked w w' s a:=by
 subst hai
 obtain ⟨A,n,c,ss,rfl,hnc,hcm,hn,rfl,hel⟩:=hs.all
 have HEL:=Mk hel
 have HN:=Mk hn
 have HM:=Mk (show Marked w w (ss.take 0).flatten a from Marked.nil (Below.refl _ _) a)
 have hnm : n ≤ 9223372036854775807:=by unfold maxLen at hcm;omega
 clear hel hn hs hcm hnc
 go_enter Tryz.func32,Tryz.ntmps32
 go_wp2
 go_loopw [1,5] (fun v1 v5 wr=>∃ i K : Nat,i ≤ n ∧ v5 = .int .i64 i ∧ v1 = .int .i64 K ∧ 1 ≤ K ∧ K ≤ 9000000 ∧ Aside0 (K = a + (ss.take i).flatten.length) ∧ Aside0 (Marked w wr (ss.take i).flatten a)) (fun _ v5 _=>n - (intOf v5).toNat)
 case atStart=>exact ⟨0,a,Nat.zero_le _,rfl,rfl,h1,by omega,⟨by simp⟩,HM⟩
 case round =>
  clear HM
  obtain ⟨i,K0,hi,rfl,rfl,hK1,hK2,HK,HM⟩:=hrel
  by_cases hlt : i < n
  ·have hsl:=List.getElem?_eq_getElem (show i < ss.length by have:=HN.out;omega)
   obtain ⟨g,hA,hc⟩:=HEL.out i _ hsl
   subst hA
   generalize ss[i]'(by have:=HN.out;omega) = t at hsl hc
   have HS:=Mk hsl
   obtain ⟨⟨z0,hx0⟩,hf0,r0,ht0,v1,s1,r1,hx1,hv1,ht1,hrn⟩:=hc
   obtain rfl : r1 = []:=hrn
   subst ht1
   have HT:=Mk (show t = [(g,i * 2,true)] ++ s1 by rw [ht0];first | done | simp)
   clear ht0 hsl
   have HX0:=Mk (show w.cell? ⟨g,i * 2,none⟩ = some (.string z0) from hx0)
   have HF0:=Mk (show w.frozen? ⟨g,i * 2,none⟩ = false from hf0)
   clear hx0 hf0
   obtain ⟨A1,n1,c1,rfl⟩:=hv1.slice
   have HX1:=Mk (show w.cell? ⟨g,i * 2 + 1,none⟩ = some (.slice A1 n1 c1) from hx1)
   have HV1:=Mk hv1
   clear hx1 hv1
   have hle : K0 + (1 + s1.length) ≤ 9000000:=by
    have h1:=take_flat HS.out
    have h2:=flat_le ss (i + 1)
    have h3:=HK.out
    rw [h1,HT.out] at h2
    (try simp only [List.length_append,List.length_cons,List.length_nil,Nat.zero_add] at h2)
    omega
   go_wp2_with fail
   refine (mText_any (K0) (by omega) (by omega) (by omega) _).mono ?_
   rintro e w1 ⟨rfl,hb⟩
   replace HM:=Mk (HM.out.below hb)
   clear hb
   obtain ⟨y0_,hx0⟩:=HM.out.tp.str _ _ HX0.out
   have hf0:=HM.out.tp.fz' HX0.out HF0.out
   have hx1:=HM.out.tp.sl _ _ _ _ HX1.out
   go_wp2_with fail
   replace HM:=Mk (Marked.putS (K:=K0) HM.out (by have:=HK.out;(try simp only [List.length_append,List.length_cons,List.length_nil] at this);(try simp only [List.length_append,List.length_cons,List.length_nil]);omega) HX0.out)
   clear hx0 hf0 hx1
   refine (markIntS_any _ s1 (K0 + 1) (by omega) _ (RowOf.tp HM.out.tp HV1.out) (by omega) (by omega)).mono ?_
   rintro e w2 ⟨rfl,hm⟩
   replace HM:=Mk (Marked.more HM.out (K:=K0 + 1) (by have:=HK.out;(try simp only [List.length_append,List.length_cons,List.length_nil] at this);(try simp only [List.length_append,List.length_cons,List.length_nil]);omega) hm)
   obtain ⟨K2,hK2⟩ : ∃ K_ : Nat,K_ = K0 + 1 + s1.length:=⟨_,rfl⟩
   rw [← hK2]
   have HE2:=Mk hK2
   replace HK:=Mk (show K2 = a + ((ss.take i).flatten ++ [(g,i * 2,true)] ++ s1).length by have:=HK.out;(try simp only [List.length_append,List.length_cons,List.length_nil] at this);(try simp only [List.length_append,List.length_cons,List.length_nil]);omega)
   have lK2 : K2 ≤ 9000000:=by omega
   have mK2 : 1 ≤ K2:=by omega
   clear hK2 hm
   go_wp2
   go_roundw
   case rel =>
    exact ⟨i + 1,K2,by omega,by go_num,by first | rfl | go_num,by omega,by omega,⟨by rw [take_flat HS.out,HT.out];have:=HK.out;(try simp only [List.length_append,List.length_cons,List.length_nil] at this);(try simp only [List.length_append,List.length_cons,List.length_nil]);omega⟩,⟨by rw [take_flat HS.out,HT.out];have:=HM.out;simpa only [List.append_assoc] using this⟩⟩
   case measure=>simp [intOf];omega
  ·have hin : i = ss.length:=by have:=HN.out;omega
   have HL:=Mk hin
   clear hin
   go_wp2
   go_ret
   have e:=HK.out
   subst e
   rw [HL.out,List.take_length] at HM ⊢
   exact ⟨rfl,HM.out⟩
section
def key (p : Slot) : Nat × Nat:=(p.1,p.2.1)
structure Fits (D : Prop) {α : Type} (d : Kd α) (t : Ty) (cnt : α → Nat) : Prop where
 sz : d.sz = t.sz
 go : ∀ (w : World) (base : Nat) (ok : Nat → Prop) (x : α) (cs : List Value) (g o : Nat),d.M w base ok x cs → (∀ j u,cs[j]? = some u → w.cell? ⟨g,o + j,none⟩ = some u ∧ w.frozen? ⟨g,o + j,none⟩ = false) →
  ∃ sl,Cel w t g o sl ∧ (∀ p ∈ sl,(p.1 = g ∧ o ≤ p.2.1 ∧ p.2.1 < o + t.sz) ∨ (ok p.1 ∧ base ≤ p.1)) ∧ (D → ¬ ok g → (sl.map key).Nodup) ∧ sl.length = cnt x
theorem Fits.iso {D : Prop} {α β : Type} {d : Kd α} {t : Ty} {cnt : α → Nat} (h : Fits D d t cnt) (f : β → α) : Fits D (Kd.iso d f) t (fun x=>cnt (f x)):=⟨h.sz,fun w base ok x cs g o hM hc=>h.go w base ok (f x) cs g o hM hc⟩
theorem fits_int {D : Prop} : Fits D (Kd.int .i64) (.int .nil) (fun _=>1):=⟨rfl,fun w base ok x cs g o hM hc=>by
 obtain rfl : cs = [.int .i64 x]:=hM
 obtain ⟨h1,h2⟩:=hc 0 _ rfl
 refine ⟨[(g,o,false)],⟨⟨_,h1⟩,h2,[],rfl,rfl⟩,fun p hp=>.inl ?_,fun _ _=>by simp,rfl⟩
 obtain rfl:=List.mem_singleton.1 hp
 exact ⟨rfl,Nat.le_refl _,Nat.lt_succ_self _⟩⟩
theorem fits_str {D : Prop} : Fits D Kd.string (.str .nil) (fun _=>1):=⟨rfl,fun w base ok x cs g o hM hc=>by
 obtain rfl : cs = [.string x]:=hM
 obtain ⟨h1,h2⟩:=hc 0 _ rfl
 refine ⟨[(g,o,true)],⟨⟨_,h1⟩,h2,[],rfl,rfl⟩,fun p hp=>.inl ?_,fun _ _=>by simp,rfl⟩
 obtain rfl:=List.mem_singleton.1 hp
 exact ⟨rfl,Nat.le_refl _,Nat.lt_succ_self _⟩⟩
theorem fits_cons {D : Prop} {base : Nat} {ok : Nat → Prop} {t : Ty} {g o : Nat} {b : Bool} {r : List Slot} (hin : ∀ p ∈ r,(p.1 = g ∧ o + 1 ≤ p.2.1 ∧ p.2.1 < o + 1 + t.sz) ∨ (ok p.1 ∧ base ≤ p.1)) (hnd : D → ¬ ok g → (r.map key).Nodup) :
  (∀ p ∈ (g,o,b) :: r,(p.1 = g ∧ o ≤ p.2.1 ∧ p.2.1 < o + (t.sz + 1)) ∨ (ok p.1 ∧ base ≤ p.1)) ∧ (D → ¬ ok g → (((g,o,b) :: r).map key).Nodup):=by
 refine ⟨fun p hp=>?_,fun hD hg=>?_⟩
 ·rcases List.mem_cons.1 hp with rfl | hp
  ·exact .inl ⟨rfl,Nat.le_refl _,by show o < _;omega⟩
  ·rcases hin p hp with ⟨h1,h2,h3⟩ | h
   ·exact .inl ⟨h1,by omega,by omega⟩
   ·exact .inr h
 ·rw [List.map_cons,List.nodup_cons]
  refine ⟨fun hm=>?_,hnd hD hg⟩
  obtain ⟨p,hp,he⟩:=List.mem_map.1 hm
  have e1 : p.1 = g:=(Prod.mk.inj he).1
  have e2 : p.2.1 = o:=(Prod.mk.inj he).2
  rcases hin p hp with ⟨_,h2,_⟩ | h
  ·omega
  ·exact hg (e1 ▸ h.1)
theorem tail_cells {w : World} {g o : Nat} {c : Value} {cs : List Value} (hc : ∀ j u,(c :: cs)[j]? = some u → w.cell? ⟨g,o + j,none⟩ = some u ∧ w.frozen? ⟨g,o + j,none⟩ = false) :
  ∀ j u,cs[j]? = some u → w.cell? ⟨g,o + 1 + j,none⟩ = some u ∧ w.frozen? ⟨g,o + 1 + j,none⟩ = false:=fun j u hu=>by
 have:=hc (j + 1) u (by simpa using hu)
 rwa [show o + (j + 1) = o + 1 + j by omega] at this
theorem fits_str_pr {α : Type} {b : Kd α} {t : Ty} {cnt : α → Nat} (h : Fits True b t cnt) : Fits True (pr Kd.string b) (.str t) (fun x=>1 + cnt x.2):=⟨by show 1 + b.sz = t.sz + 1;rw [h.sz,Nat.add_comm],fun w base ok x cs g o hM hc=>by
 obtain ⟨c0,c1,rfl,p,h0,h1⟩:=hM
 obtain rfl : c0 = [.string x.1]:=h0
 obtain ⟨r,hr,hin,hnd,hct⟩:=h.go w base _ x.2 c1 g (o + 1) h1 (tail_cells hc)
 obtain ⟨hA,hB⟩:=fits_cons (b:=true) (D:=True) (ok:=ok) (fun p hp=>(hin p hp).imp id (fun h=>⟨h.1.1,h.2⟩)) (fun hD hg=>hnd hD (fun hk=>hg hk.1))
 exact ⟨_,⟨⟨_,(hc 0 _ rfl).1⟩,(hc 0 _ rfl).2,r,rfl,hr⟩,hA,hB,by rw [List.length_cons,hct,Nat.add_comm]⟩⟩
theorem fits_int_pair {α : Type} {b : Kd α} {t : Ty} {cnt : α → Nat} (h : Fits False b t cnt) : Fits False (Kd.pair (Kd.int .i64) b) (.int t) (fun x=>1 + cnt x.2):=⟨by show 1 + b.sz = t.sz + 1;rw [h.sz,Nat.add_comm],fun w base ok x cs g o hM hc=>by
 obtain ⟨c0,c1,rfl,h0,h1⟩:=hM
 obtain rfl : c0 = [.int .i64 x.1]:=h0
 obtain ⟨r,hr,hin,hnd,hct⟩:=h.go w base _ x.2 c1 g (o + 1) h1 (tail_cells hc)
 obtain ⟨hA,_⟩:=fits_cons (b:=false) (D:=False) (ok:=ok) hin (fun hD=>hD.elim)
 exact ⟨_,⟨⟨_,(hc 0 _ rfl).1⟩,(hc 0 _ rfl).2,r,rfl,hr⟩,hA,fun hD=>hD.elim,by rw [List.length_cons,hct,Nat.add_comm]⟩⟩
theorem choose_list {α : Type} {P : Nat → α → Prop} : ∀ n,(∀ j,j < n → ∃ t,P j t) → ∃ ss : List α,ss.length = n ∧ ∀ j t,ss[j]? = some t → P j t
 | 0,_=>⟨[],rfl,fun j t h=>by simp at h⟩
 | n + 1,h=>by
  obtain ⟨ss,hl,hs⟩:=choose_list n (fun j hj=>h j (by omega))
  obtain ⟨t,ht⟩:=h n (Nat.lt_succ_self n)
  refine ⟨ss ++ [t],by simp [hl],fun j u hu=>?_⟩
  rcases Nat.lt_or_ge j n with hj | hj
  ·rw [List.getElem?_append_left (by omega)] at hu
   exact hs j u hu
  ·rw [List.getElem?_append_right (by omega),hl] at hu
   rcases Nat.eq_zero_or_pos (j - n) with h0 | h0
   ·rw [h0] at hu
    obtain rfl : t = u:=by simpa using hu
    rwa [show j = n by omega]
   ·rw [List.getElem?_eq_none (by simp;omega)] at hu;cases hu
theorem nodup_flat {ss : List (List Slot)} (h1 : ∀ l ∈ ss,(l.map key).Nodup) (h2 : ∀ (i j : Nat) (s t : List Slot),i < j → ss[i]? = some s → ss[j]? = some t → ∀ p ∈ s,∀ q ∈ t,key p ≠ key q) : (ss.flatten.map key).Nodup:=by
 rw [List.map_flatten,List.nodup_iff_pairwise_ne,List.pairwise_flatten]
 refine ⟨fun l hl=>?_,?_⟩
 ·obtain ⟨m,hm,rfl⟩:=List.mem_map.1 hl
  exact List.nodup_iff_pairwise_ne.1 (h1 m hm)
 ·rw [List.pairwise_map,List.pairwise_iff_getElem]
  intro i j hi hj hij x hx y hy
  obtain ⟨p,hp,rfl⟩:=List.mem_map.1 hx
  obtain ⟨q,hq,rfl⟩:=List.mem_map.1 hy
  exact h2 i j _ _ hij (List.getElem?_eq_getElem hi) (List.getElem?_eq_getElem hj) p hp q hq
theorem sum_flat {α : Type} {cnt : α → Nat} : ∀ (xs : List α) (ss : List (List Slot)),ss.length = xs.length → (∀ (j : Nat) (s : List Slot) (x : α),ss[j]? = some s → xs[j]? = some x → s.length = cnt x) → ss.flatten.length = (xs.map cnt).sum
 | [],ss,h,_=>by
  obtain rfl:=List.eq_nil_of_length_eq_zero h
  rfl
 | x :: xs,[],h,_=>by simp at h
 | x :: xs,s :: ss,h,hs=>by
  rw [List.flatten_cons,List.length_append,List.map_cons,List.sum_cons,sum_flat xs ss (by simpa using h) (fun j s x h1 h2=>hs (j + 1) s x (by simpa using h1) (by simpa using h2)),hs 0 s x rfl rfl]
theorem R_slots {α : Type} {d : Kd α} {t : Ty} {cnt : α → Nat} (hF : Fits False d t cnt) {e base : Nat} {ok : Nat → Prop} {w : World} {v : Value} {xs : List α} (h : d.R e w base ok v xs) (c : Nat) (hc : xs.length ≤ c) :
  ∃ s,RowOf (Cel w t) t.sz (cutV v c) s ∧ (∀ p ∈ s,ok p.1 ∧ base ≤ p.1) ∧ s.length = (xs.map cnt).sum:=by
 obtain ⟨A,c0,rfl,hc0,hC⟩:=Kd.R_reads h
 rcases A with _ | ad
 ·have h0 : xs.length = 0:=by
   rcases Nat.eq_zero_or_pos xs.length with h0 | h0
   ·exact h0
   ·obtain ⟨ad,he,_⟩:=hC.2.2 h0
    cases he
  exact ⟨[],.inl ⟨c,by rw [h0];rfl,rfl⟩,(fun p hp=>by cases hp),by rw [List.eq_nil_of_length_eq_zero h0];rfl⟩
 ·obtain ⟨g,rfl⟩:=Kd.R_head h
  have hbase : ok g ∧ base ≤ g:=⟨h.1 g rfl,Kd.R_base h g rfl⟩
  obtain ⟨ss,hl,hs⟩:=choose_list (P:=fun j s=>Cel w t g (j * t.sz) s ∧ (∀ p ∈ s,ok p.1 ∧ base ≤ p.1) ∧ ∀ x,xs[j]? = some x → s.length = cnt x) xs.length (fun j hj=>by
   obtain ⟨cs,hcl,hM,hcc,hfr⟩:=Kd.R_elem h (xs[j]'hj) (j : Int) (by omega) (by omega)
   rw [Int.toNat_natCast] at hcc hM hfr
   rw [hF.sz] at hcc hfr
   obtain ⟨s,hs,hin,_,hct⟩:=hF.go w base _ _ cs g (j * t.sz) hM (fun i u hu=>⟨hcc i u hu,hfr i⟩)
   exact ⟨s,hs,fun p hp=>(hin p hp).elim (fun h=>h.1 ▸ hbase) (fun h=>⟨h.1.1,h.2⟩),fun x hx=>by rw [hct,List.getD_eq_getElem?_getD,hx];rfl⟩)
  refine ⟨ss.flatten,.inr ⟨g,xs.length,c,rfl,hc,hC.2.1,ss,hl,rfl,fun j s hj=>(hs j s hj).1⟩,fun p hp=>?_,sum_flat xs ss hl (fun j s x h1 h2=>(hs j s h1).2.2 x h2)⟩
  obtain ⟨l,hl,hpl⟩:=List.mem_flatten.1 hp
  obtain ⟨j,hj⟩:=List.getElem?_of_mem hl
  exact (hs j l hj).2.1 p hpl
theorem S_slots {α : Type} {d : Kd α} {t : Ty} {cnt : α → Nat} (hF : Fits True d t cnt) {e base : Nat} {ok : Nat → Prop} {w : World} {v : Value} {xs : List α} (h : Kd.S d e w base ok v xs) (c : Nat) (hc : xs.length ≤ c) :
  ∃ s,RowOf (Cel w t) t.sz (cutV v c) s ∧ (∀ p ∈ s,ok p.1 ∧ base ≤ p.1) ∧ (s.map key).Nodup ∧ s.length = (xs.map cnt).sum:=by
 obtain ⟨A,c0,rfl,hc0,hC⟩:=Kd.S_reads h
 rcases A with _ | ad
 ·have h0 : xs.length = 0:=by
   rcases Nat.eq_zero_or_pos xs.length with h0 | h0
   ·exact h0
   ·obtain ⟨ad,he,_⟩:=hC.2.2 h0
    cases he
  exact ⟨[],.inl ⟨c,by rw [h0];rfl,rfl⟩,(fun p hp=>by cases hp),by simp,by rw [List.eq_nil_of_length_eq_zero h0];rfl⟩
 ·obtain ⟨g,rfl⟩:=Kd.R_head (Kd.S_R h)
  have hbase : ok g ∧ base ≤ g:=⟨(Kd.S_R h).1 g rfl,Kd.R_base (Kd.S_R h) g rfl⟩
  obtain ⟨f,hR⟩:=h
  have hzl : xs.zipIdx.length = xs.length:=List.length_zipIdx
  obtain ⟨ss,hl,hs⟩:=choose_list (P:=fun j s=>Cel w t g (j * t.sz) s ∧ (∀ p ∈ s,(p.1 = g ∧ j * t.sz ≤ p.2.1 ∧ p.2.1 < j * t.sz + t.sz) ∨ (((ok p.1 ∧ p.1 ≠ g) ∧ f p.1 = j) ∧ base ≤ p.1)) ∧ (s.map key).Nodup ∧ ∀ x,xs[j]? = some x → s.length = cnt x) xs.length (fun j hj=>by
   obtain ⟨cs,hcl,hM,hcc,hfr⟩:=Kd.R_elem hR (xs[j]'hj,j) (j : Int) (by omega) (by omega)
   rw [Int.toNat_natCast] at hcc hM hfr
   have hz : xs.zipIdx.getD j (xs[j]'hj,j) = (xs[j]'hj,j):=by
    rw [List.getD_eq_getElem?_getD,Kd.zip_at (List.getElem?_eq_getElem hj)];rfl
   rw [hz] at hM
   have hsz : (Kd.tag f d).sz = t.sz:=hF.sz
   rw [hsz] at hcc hfr
   obtain ⟨s,hs,hin,hnd,hct⟩:=hF.go w base _ _ cs g (j * t.sz) hM (fun i u hu=>⟨hcc i u hu,hfr i⟩)
   exact ⟨s,hs,fun p hp=>(hin p hp).imp id (fun h=>h),hnd trivial (fun hk=>hk.1.2 rfl),fun x hx=>by
    obtain ⟨_,rfl⟩:=List.getElem?_eq_some_iff.1 hx
    exact hct⟩)
  refine ⟨ss.flatten,.inr ⟨g,xs.length,c,rfl,hc,hC.2.1,ss,hl,rfl,fun j s hj=>(hs j s hj).1⟩,fun p hp=>?_,nodup_flat (fun l hl=>?_) ?_,sum_flat xs ss hl (fun j s x h1 h2=>(hs j s h1).2.2.2 x h2)⟩
  ·obtain ⟨l,hl,hpl⟩:=List.mem_flatten.1 hp
   obtain ⟨j,hj⟩:=List.getElem?_of_mem hl
   exact ((hs j l hj).2.1 p hpl).elim (fun h=>h.1 ▸ hbase) (fun h=>⟨h.1.1.1,h.2⟩)
  ·obtain ⟨j,hj⟩:=List.getElem?_of_mem hl
   exact (hs j l hj).2.2.1
  ·intro i j s u hij hi hj p hp q hq he
   have e1 : p.1 = q.1:=(Prod.mk.inj he).1
   have e2 : p.2.1 = q.2.1:=(Prod.mk.inj he).2
   have hm : i * t.sz + t.sz ≤ j * t.sz:=by rw [← Nat.succ_mul];exact Nat.mul_le_mul_right _ hij
   rcases (hs i s hi).2.1 p hp with ⟨a1,a2,a3⟩ | ⟨⟨⟨a1,a2⟩,a3⟩,a4⟩<;>rcases (hs j u hj).2.1 q hq with ⟨b1,b2,b3⟩ | ⟨⟨⟨b1,b2⟩,b3⟩,b4⟩
   ·omega
   ·exact b2 (e1 ▸ a1)
   ·exact a2 (e1 ▸ b1)
   ·rw [e1,b3] at a3;omega
theorem fits_row {α : Type} {d : Kd α} {e : Nat} {te : Ty} {cnt : α → Nat} (h : Fits True d te cnt) : Fits True (sl e d) (.row te .nil) (fun xs=>(xs.map cnt).sum):=⟨rfl,fun w base ok x cs g o hM hc=>by
 obtain ⟨v,c,rfl,hl,hS⟩:=hM
 obtain ⟨s,hr,hin,hnd,hct⟩:=S_slots h hS c hl
 exact ⟨s ++ [],⟨_,s,[],(hc 0 _ rfl).1,hr,rfl,rfl⟩,fun p hp=>.inr (hin p (by simpa using hp)),(fun _ _=>by simpa using hnd),by simpa using hct⟩⟩
theorem fits_slice {α : Type} {d : Kd α} {e : Nat} {te : Ty} {cnt : α → Nat} (h : Fits False d te cnt) : Fits False (Kd.slice e d) (.row te .nil) (fun xs=>(xs.map cnt).sum):=⟨rfl,fun w base ok x cs g o hM hc=>by
 obtain ⟨v,rfl,hR⟩:=hM
 obtain ⟨A,c,rfl,hcl,_⟩:=Kd.R_reads hR
 obtain ⟨s,hr,hin,hct⟩:=R_slots h hR c hcl
 exact ⟨s ++ [],⟨_,s,[],(hc 0 _ rfl).1,hr,rfl,rfl⟩,fun p hp=>.inr (hin p (by simpa using hp)),fun hD=>hD.elim,by simpa using hct⟩⟩
theorem fits_slice_pair {α β : Type} {d : Kd α} {b : Kd β} {e : Nat} {te t : Ty} {cnt : α → Nat} {cn2 : β → Nat} (h : Fits False d te cnt) (hb : Fits False b t cn2) : Fits False (Kd.pair (Kd.slice e d) b) (.row te t) (fun x=>(x.1.map cnt).sum + cn2 x.2):=⟨by show 1 + b.sz = t.sz + 1;rw [hb.sz,Nat.add_comm],fun w base ok x cs g o hM hc=>by
 obtain ⟨c0,c1,rfl,h0,h1⟩:=hM
 obtain ⟨v,rfl,hR⟩:=h0
 obtain ⟨A,c,rfl,hcl,_⟩:=Kd.R_reads hR
 obtain ⟨s,hr,hin,hct⟩:=R_slots h hR c hcl
 obtain ⟨r,hr2,hin2,_,hct2⟩:=hb.go w base _ x.2 c1 g (o + 1) h1 (tail_cells hc)
 refine ⟨s ++ r,⟨_,s,r,(hc 0 _ rfl).1,hr,rfl,hr2⟩,fun q hq=>?_,fun hD=>hD.elim,by rw [List.length_append,hct,hct2]⟩
 rcases List.mem_append.1 hq with hq | hq
 ·exact .inr (hin q hq)
 ·rcases hin2 q hq with ⟨a1,a2,a3⟩ | a
  ·exact .inl ⟨a1,by omega,by show q.2.1 < o + (t.sz + 1);omega⟩
  ·exact .inr a⟩
end
section
def Held (w : World) (s : List Slot) (a : Nat) : Prop:=∀ j p,s[j]? = some p → w.cell? ⟨p.1,p.2.1,none⟩ = some (mkv p.2.2 (a + j))
theorem Held.below {w w' : World} {s : List Slot} {a : Nat} (h : Held w s a) (hb : Below w.heap.size w w') : Held w' s a:=fun j p hj=>by
 have:=h j p hj
 exact (hb.cell (World.block_lt_of_cell? w _ this)).trans this
theorem Held.left {w : World} {s1 s2 : List Slot} {a : Nat} (h : Held w (s1 ++ s2) a) : Held w s1 a:=fun j p hj=>h j p (by
 rw [List.getElem?_append_left (List.getElem?_eq_some_iff.1 hj).1];exact hj)
theorem Held.right {w : World} {s1 s2 : List Slot} {a : Nat} (h : Held w (s1 ++ s2) a) : Held w s2 (a + s1.length):=fun j p hj=>by
 have:=h (s1.length + j) p (by rw [List.getElem?_append_right (Nat.le_add_right _ _),Nat.add_sub_cancel_left];exact hj)
 rwa [← Nat.add_assoc] at this
theorem Held.one {w : World} {g o : Nat} {t : Bool} {a : Nat} (h : Held w [(g,o,t)] a) : w.cell? ⟨g,o,none⟩ = some (mkv t a):=h 0 _ rfl
theorem Held.flat {w : World} {ss : List (List Slot)} {a i : Nat} {t : List Slot} (h : Held w ss.flatten a) (hi : ss[i]? = some t) : Held w t (a + (ss.take i).flatten.length):=by
 obtain ⟨hl,rfl⟩:=List.getElem?_eq_some_iff.1 hi
 have e : ss.flatten = (ss.take i).flatten ++ (ss[i] ++ (ss.drop (i + 1)).flatten):=by
  have e2 : ss.flatten = (ss.take i ++ ss.drop i).flatten:=by rw [List.take_append_drop]
  rw [e2,List.flatten_append,List.drop_eq_getElem_cons hl,List.flatten_cons]
 rw [e] at h
 exact h.right.left
theorem Marked.held {w w' : World} {s : List Slot} {a : Nat} (h : Marked w w' s a) (hn : (s.map key).Nodup) : Held w' s a:=h.at_ hn
end
set_option maxHeartbeats 2000000 in
set_option maxRecDepth 100000 in
theorem heldIntS_any (v : Value) (s : List Slot) (a : Nat) {ai : Int} (hai : ai = (a : Int)) (w : World) (hs : RowOf (Cel w tyInt) 1 v s) (h1 : 1 ≤ a) (hb : a + s.length ≤ 9000000) (hh : Held w s a) :
  Calls Tryz.prog 46 #[v,.int .i64 ai] w fun e w'=>e = .returned (.int .i64 ((a + s.length : Nat) : Int)) ∧ Below w.heap.size w w':=by
 subst hai
 obtain ⟨A,n,c,ss,rfl,hnc,hcm,hn,rfl,hel⟩:=hs.all
 have HEL:=Mk hel
 have HN:=Mk hn
 have HH:=Mk hh
 have HB:=Mk (Below.refl w.heap.size w)
 have hnm : n ≤ 9223372036854775807:=by unfold maxLen at hcm;omega
 clear hel hn hs hcm hnc hh
 go_enter Tryz.func46,Tryz.ntmps46
 go_wp2
 go_loopw [1,5] (fun v1 v5 wr=>∃ i K : Nat,i ≤ n ∧ v5 = .int .i64 i ∧ v1 = .int .i64 K ∧ 1 ≤ K ∧ K ≤ 9000000 ∧ Aside0 (K = a + (ss.take i).flatten.length) ∧ Aside0 (Below w.heap.size w wr)) (fun _ v5 _=>n - (intOf v5).toNat)
 case atStart=>exact ⟨0,a,Nat.zero_le _,rfl,rfl,h1,by omega,⟨by simp⟩,HB⟩
 case round =>
  clear HB
  obtain ⟨i,K0,hi,rfl,rfl,hK1,hK2,HK,HB⟩:=hrel
  by_cases hlt : i < n
  ·have hsl:=List.getElem?_eq_getElem (show i < ss.length by have:=HN.out;omega)
   obtain ⟨g,hA,hc⟩:=HEL.out i _ hsl
   subst hA
   generalize ss[i]'(by have:=HN.out;omega) = t at hsl hc
   have HS:=Mk hsl
   have hq:=HH.out.flat hsl
   rw [Nat.mul_one] at hc
   obtain ⟨_,_,r0,ht0,hrn⟩:=hc
   obtain rfl : r0 = []:=hrn
   have HT:=Mk (show t = [(g,i,false)] by rw [ht0];first | done | simp)
   clear ht0 hsl
   rw [HT.out,← HK.out] at hq
   have hx0 : w.cell? ⟨g,i,none⟩ = some (.int .i64 (K0 : Int)):=hq.one
   have HX0:=Mk hx0
   clear hx0
   have hle : K0 + (1) ≤ 9000000:=by
    have h1:=take_flat HS.out
    have h2:=flat_le ss (i + 1)
    have h3:=HK.out
    rw [h1,HT.out] at h2
    (try simp only [List.length_append,List.length_cons,List.length_nil,Nat.zero_add] at h2)
    omega
   clear hq
   have hx0 : _ = some (Value.int .i64 ((K0 : Int))):=(HB.out.cell (World.block_lt_of_cell? w _ HX0.out)).trans (HX0.out.trans (by rw [show ((K0 : Nat) : Int) = (K0 : Int) by omega]))
   go_wp2
   go_roundw
   case rel=>exact ⟨i + 1,K0 + 1,by omega,by go_num,by first | rfl | go_num,by omega,by omega,⟨by rw [take_flat HS.out,HT.out];have:=HK.out;(try simp only [List.length_append,List.length_cons,List.length_nil] at this);(try simp only [List.length_append,List.length_cons,List.length_nil]);omega⟩,HB⟩
   case measure=>simp [intOf];omega
  ·have hin : i = ss.length:=by have:=HN.out;omega
   have HL:=Mk hin
   clear hin
   go_wp2
   go_ret
   have e:=HK.out
   subst e
   rw [HL.out,List.take_length]
   exact ⟨rfl,HB.out⟩
set_option maxHeartbeats 2000000 in
set_option maxRecDepth 100000 in
theorem heldMarkS_any (v : Value) (s : List Slot) (a : Nat) {ai : Int} (hai : ai = (a : Int)) (w : World) (hs : RowOf (Cel w tyMark) 2 v s) (h1 : 1 ≤ a) (hb : a + s.length ≤ 9000000) (hh : Held w s a) :
  Calls Tryz.prog 33 #[v,.int .i64 ai] w fun e w'=>e = .returned (.int .i64 ((a + s.length : Nat) : Int)) ∧ Below w.heap.size w w':=by
 subst hai
 obtain ⟨A,n,c,ss,rfl,hnc,hcm,hn,rfl,hel⟩:=hs.all
 have HEL:=Mk hel
 have HN:=Mk hn
 have HH:=Mk hh
 have HB:=Mk (Below.refl w.heap.size w)
 have hnm : n ≤ 9223372036854775807:=by unfold maxLen at hcm;omega
 clear hel hn hs hcm hnc hh
 go_enter Tryz.func33,Tryz.ntmps33
 go_wp2
 go_loopw [1,5] (fun v1 v5 wr=>∃ i K : Nat,i ≤ n ∧ v5 = .int .i64 i ∧ v1 = .int .i64 K ∧ 1 ≤ K ∧ K ≤ 9000000 ∧ Aside0 (K = a + (ss.take i).flatten.length) ∧ Aside0 (Below w.heap.size w wr)) (fun _ v5 _=>n - (intOf v5).toNat)
 case atStart=>exact ⟨0,a,Nat.zero_le _,rfl,rfl,h1,by omega,⟨by simp⟩,HB⟩
 case round =>
  clear HB
  obtain ⟨i,K0,hi,rfl,rfl,hK1,hK2,HK,HB⟩:=hrel
  by_cases hlt : i < n
  ·have hsl:=List.getElem?_eq_getElem (show i < ss.length by have:=HN.out;omega)
   obtain ⟨g,hA,hc⟩:=HEL.out i _ hsl
   subst hA
   generalize ss[i]'(by have:=HN.out;omega) = t at hsl hc
   have HS:=Mk hsl
   have hq:=HH.out.flat hsl
   obtain ⟨_,_,r0,ht0,v1,s1,r1,hx1,hv1,ht1,hrn⟩:=hc
   obtain rfl : r1 = []:=hrn
   subst ht1
   have HT:=Mk (show t = [(g,i * 2,true)] ++ s1 by rw [ht0];first | done | simp)
   clear ht0 hsl
   rw [HT.out,← HK.out] at hq
   have HH1:=Mk (show Held w s1 (K0 + 1) from by have:=hq.right;simpa only [List.length_append,List.length_cons,List.length_nil,Nat.zero_add,Nat.add_assoc] using this)
   replace hq:=hq.left
   have hx0 : w.cell? ⟨g,i * 2,none⟩ = some (.string (mtx K0)):=hq.one
   have HX0:=Mk hx0
   clear hx0
   obtain ⟨A1,n1,c1,rfl⟩:=hv1.slice
   have HX1:=Mk (show w.cell? ⟨g,i * 2 + 1,none⟩ = some (.slice A1 n1 c1) from hx1)
   have HV1:=Mk hv1
   clear hx1 hv1
   have hle : K0 + (1 + s1.length) ≤ 9000000:=by
    have h1:=take_flat HS.out
    have h2:=flat_le ss (i + 1)
    have h3:=HK.out
    rw [h1,HT.out] at h2
    (try simp only [List.length_append,List.length_cons,List.length_nil,Nat.zero_add] at h2)
    omega
   clear hq
   go_wp2_with fail
   have hx0:=(HB.out.cell (World.block_lt_of_cell? w _ HX0.out)).trans HX0.out
   replace HB:=Mk (below_drew1 HB.out)
   refine start_ (n:=8) (S:=fun w'=>w'.cell? ⟨g,i * 2,none⟩ = some (Value.string (mtx (K0)))) (ds:=[]) #[false,false,false,false,false,false,false,false] (by kernel_rfl) rfl rfl hx0 (fun hHeld=>?_)
   clear hx0
   generalize wr.drew = wd at HB hHeld ⊢
   refine U.pn 0 (some 12) ?_
   refine U.pn 1 (some 13) ?_
   refine U.pn 2 (some 14) ?_
   refine U.pn 3 (some 15) ?_
   refine U.pn 5 (some 17) ?_
   refine take_ (i:=4) (N:=some 16) (v:=?_) (a':=?_) #[true,true,true,true,true,true,false,false] rfl rfl (by kernel_rfl) (fun _ _ _ h=>h) (Or.inl ⟨by rfl,?_⟩) hHeld ?_ ?_
   rotate_left
   ·intro w' s0
    go_simp
    with_reducible rfl
   rotate_left
   ·simp only [Act.put,List.setIfInBounds_toArray,List.set_cons_zero,List.set_cons_succ,i64_w,i32_w]
    rfl
   refine one_ (i:=6) (N:=some 18) #[true,true,true,true,true,true,true,false] rfl rfl (by kernel_rfl) (by decide) (fun K hK=>?_)
   refine U.go Tryz.func69 #[.int .i64 ((K0 : Int))] ?_
   refine (mText_any (K0) (by omega) (by omega) (by omega) _).mono ?_
   rintro e w8 ⟨rfl,hb⟩
   refine ⟨_,rfl,?_⟩
   replace HB:=Mk (below_step HB.out hb)
   clear hb
   refine hK.out _ _ ((HB.out.cell (World.block_lt_of_cell? w _ HX0.out)).trans HX0.out) (fun hHeld=>?_)
   clear hK K
   refine U.nm 18 ?_
   refine U.pn 7 (some 19) ?_
   refine done_ (by kernel_rfl) ?_
   have hx1 : _ = some (Value.slice A1 n1 c1):=(HB.out.cell (World.block_lt_of_cell? w _ HX1.out)).trans HX1.out
   go_wp2_with fail
   clear hx1
   refine (heldIntS_any _ s1 (K0 + 1) (by omega) _ (RowOf.tp (TP.of_below HB.out) HV1.out) (by omega) (by omega) (by have:=HH1.out.below HB.out;exact this)).mono ?_
   rintro e w1 ⟨rfl,hb⟩
   replace HB:=Mk (below_step HB.out hb)
   obtain ⟨K1,hK1⟩ : ∃ K_ : Nat,K_ = K0 + 1 + s1.length:=⟨_,rfl⟩
   rw [← hK1]
   have HE:=Mk (show K1 = K0 + 1 + s1.length by omega)
   have lK1 : K1 ≤ 9000000:=by omega
   have mK1 : 1 ≤ K1:=by omega
   clear hK1 hb
   go_wp2
   go_roundw
   case rel=>exact ⟨i + 1,K1,by omega,by go_num,by first | rfl | go_num,by omega,by omega,⟨by rw [take_flat HS.out,HT.out];have:=HK.out;have h2:=HE.out;(try simp only [List.length_append,List.length_cons,List.length_nil] at this);(try simp only [List.length_append,List.length_cons,List.length_nil]);omega⟩,HB⟩
   case measure=>simp [intOf];omega
  ·have hin : i = ss.length:=by have:=HN.out;omega
   have HL:=Mk hin
   clear hin
   go_wp2
   go_ret
   have e:=HK.out
   subst e
   rw [HL.out,List.take_length]
   exact ⟨rfl,HB.out⟩
theorem clip_int (A0 : Option Addr) (n c0 : Nat) (w : World) (hc : n ≤ c0) (hm : n ≤ 9223372036854775807) :
  Calls Tryz.prog 131 #[.slice A0 n c0] w fun e w'=>e = .returned (.slice A0 n n) ∧ Below w.heap.size w w':=by
 obtain ⟨i0,hi0,_,hsz,_⟩:=info_parts OFnExactShapeFirst.info3
 have hcut : ∀ W : World,(Instr.slice 38 (.slice A0 n c0) none (some (.int .i64 (n : Int))) (some (.int .i64 (n : Int)))).run Tryz.prog W = .ok (.slice A0 n n) W:=by
  intro W
  have ht:=Tryz.underlying38
  have hel : Tryz.prog.elem 38 = 3:=by simp [Program.elem,ht]
  have hu : Tryz.prog.underlying 38 = some (.slice (Tryz.prog.elem 38)):=by rw [hel];exact ht
  have ha : (A0.map fun x=>x.add 0) = A0:=by cases A0<;>simp [Addr.add]
  rw [run_slice_hm W 38 A0 n c0 hu .i64 .i64 n n (by omega) (by omega) (by omega),hel]
  simp [sizeOf,typeInfo,hi0,sliced,Result.andThen,ha]
 clear hc
 go_enter Tryz.func131,Tryz.ntmps131
 go_wp2
 go_ret
 exact ⟨rfl,Below.refl _ _⟩
theorem clip_mark (A0 : Option Addr) (n c0 : Nat) (w : World) (hc : n ≤ c0) (hm : n ≤ 9223372036854775807) :
  Calls Tryz.prog 108 #[.slice A0 n c0] w fun e w'=>e = .returned (.slice A0 n n) ∧ Below w.heap.size w w':=by
 obtain ⟨i0,hi0,_,hsz,_⟩:=info_parts OFnExactShapeFirst.info62
 have hcut : ∀ W : World,(Instr.slice 24 (.slice A0 n c0) none (some (.int .i64 (n : Int))) (some (.int .i64 (n : Int)))).run Tryz.prog W = .ok (.slice A0 n n) W:=by
  intro W
  have ht:=Tryz.underlying24
  have hel : Tryz.prog.elem 24 = 62:=by simp [Program.elem,ht]
  have hu : Tryz.prog.underlying 24 = some (.slice (Tryz.prog.elem 24)):=by rw [hel];exact ht
  have ha : (A0.map fun x=>x.add 0) = A0:=by cases A0<;>simp [Addr.add]
  rw [run_slice_hm W 24 A0 n c0 hu .i64 .i64 n n (by omega) (by omega) (by omega),hel]
  simp [sizeOf,typeInfo,hi0,sliced,Result.andThen,ha]
 clear hc
 go_enter Tryz.func108,Tryz.ntmps108
 go_wp2
 go_ret
 exact ⟨rfl,Below.refl _ _⟩
set_option maxHeartbeats 2000000 in
set_option maxRecDepth 100000 in
theorem copyInts_own (A0 : Option Addr) (c0 : Nat) (l0 : List Int) (w : World) (hr0 : Kd.C (Kd.int .i64) w A0 l0.length l0) (hc0 : l0.length ≤ c0) (hl : l0.length < 4398046511104) :
  Calls Tryz.prog 89 #[.slice A0 l0.length c0] w fun e w'=>∃ A c,e = .returned (.slice A l0.length l0.length) ∧ Kd.S (Kd.int .i64) 3 w' w.heap.size (fun k=>w.heap.size ≤ k) (.slice A l0.length c) l0 ∧ Below w.heap.size w w':=by
 have HR0:=Mk hr0
 have HB:=Mk (Below.refl w.heap.size w)
 have HL:=Mk hl
 clear hr0 hl
 go_enter Tryz.func89,Tryz.ntmps89
 go_wp2_with (first
  | ((with_reducible refine gate_dst (N:=3) rfl ?_);refine Kd.R_lit (Kd.int .i64) _ 3 ?hg (N:=3) ?hd (xs:=([] : List Int)) (inner:=[]) (ok:=fun _=>True) (okp:=fun _=>True) ?hr ?hp (fun _ hk=>hk) trivial (Below.refl _ _) (Nat.le_refl _) (by simp) ?_;(case hd=>rfl);(case hg=>rfl);(case hr=>first | (go_simp;done) | (go_simp;rfl));(case hp=>exact (Reps.none _ _));intro v3 w4 ho hb hg_ hnew_;clear hg_ hnew_;have HO:=Mk ho;replace HB:=Mk hb;clear hb ho)
  | ((with_reducible refine gate_builtin (b:=.append) (xs:=#[.tmp 3,.tmp 4]) rfl ?_);at_builtin;refine Kd.R_append_rows (Kd.int .i64) (w0:=w) w.heap.size rfl (.tmp 3) (.tmp 4) 38 3 (.int .i64 0) 8 rfl Tryz.underlying38 OFnExactShapeFirst.info3 rfl (by decide) (by omega) v3 ([] : List Int) l0 _ _ _ (fun k=>w.heap.size ≤ k) (fun _=>False) rfl rfl ?aO ?aR (fun _ _ h=>h) (fun _ h=>h.elim) ?aF ?aB ?aS ?aL ?_;(case aR=>exact Kd.C_below HR0.out HB.out);(case aB=>exact HB.out);(case aF=>exact (fun k_ hk=>(Nat.le_trans HB.out.size hk)));(case aO=>exact Kd.R_mono (Kd.R_bound HO.out) (fun _ hk=>hk.2.1));(case aS=>exact HB.out.size);(case aL=>(have:=HL.out;simp;omega));intro v5 w6 ho hb hg hat;replace HB:=Mk hb;replace HO:=Mk ho;clear ho hb hg hat;obtain ⟨A5,c5,e5⟩:=Kd.R_slice HO.out;rw [List.nil_append] at e5 HO;subst e5)
  | (go_at_call 131;refine (clip_int A5 l0.length c5 _ (Kd.R_reads' HO.out).2.1 (by have:=HL.out;omega)).mono ?_;rintro e w7 ⟨rfl,hb⟩;replace HO:=Mk (Kd.R_below HO.out hb);replace HB:=Mk (below_step HB.out hb);clear hb))
 go_ret
 exact ⟨A5,c5,rfl,S_flat rfl HO.out,HB.out⟩
set_option maxHeartbeats 2000000 in
set_option maxRecDepth 100000 in
theorem markShape_any  (v0 : Value) (s0 : List Slot) (v1 : Value) (s1 : List Slot) (a : Nat) {ai : Int} (hai : ai = (a : Int)) (w : World) (hs0 : RowOf (Cel w tyMark) 2 v0 s0) (hs1 : RowOf (Cel w tyMark) 2 v1 s1) (h1 : 1 ≤ a) (hb : a + (s0 ++ s1).length ≤ 9000000) :
  Calls Tryz.prog 12 #[.agg #[v0,v1],.int .i64 ai] w fun e w'=>e = .returned (.int .i64 ((a + (s0 ++ s1).length : Nat) : Int)) ∧ Marked w w' (s0 ++ s1) a:=by
 subst hai
 have hu_:=Tryz.underlying26
 (try simp only [List.length_append] at hb)
 have hle : a + (s0.length + s1.length) ≤ 9000000:=by omega
 clear hb
 have HI0:=Mk (fun p hp=>RowOf.mem hs0 p hp)
 obtain ⟨A0,m0,c0,e0⟩:=hs0.slice
 subst e0
 have HV0:=Mk hs0
 clear hs0
 have HI1:=Mk (fun p hp=>RowOf.mem hs1 p hp)
 obtain ⟨A1,m1,c1,e1⟩:=hs1.slice
 subst e1
 have HV1:=Mk hs1
 clear hs1
 go_enter Tryz.func12,Tryz.ntmps12
 go_wp2_with fail
 obtain ⟨g,hg⟩ : ∃ g,g = w.heap.size:=⟨_,rfl⟩
 obtain ⟨wb,hwb⟩ : ∃ W,W = w.alloc (.cells #[.slice A0 m0 c0,.slice A1 m1 c1] 26):=⟨_,rfl⟩
 rw [← hwb]
 try rw [← hg]
 have BK:=Mk (show wb.heap[g]? = some (.cells #[.slice A0 m0 c0,.slice A1 m1 c1] 26 (0,0)) by rw [hwb,hg];exact heap_alloc_new w _)
 have HB:=Mk (show Below w.heap.size w wb by rw [hwb];exact below_alloc (Below.refl _ _) _)
 have GW:=Mk (show w.heap.size ≤ g by rw [hg];exact Nat.le_refl _)
 have HM:=Mk (Marked.nil HB.out a)
 have HK:=Mk (show a = a + ([] : List Slot).length by simp)
 clear HB
 clear hwb hg
 refine (markMarkS_any _ s0 a (by omega) _ (RowOf.tp HM.out.tp HV0.out) (by omega) (by omega)).mono ?_
 rintro e w1 ⟨rfl,hm⟩
 replace BK:=Mk ((hm.far g (blk_lt BK.out) (fun p hp e=>by have h1:=HI0.out p hp;have h2:=GW.out;omega)).trans BK.out)
 replace HM:=Mk (Marked.more HM.out (K:=a) HK.out hm)
 obtain ⟨K1,hK1⟩ : ∃ K_ : Nat,K_ = a + s0.length:=⟨_,rfl⟩
 rw [← hK1]
 have HE:=Mk (show K1 = a + s0.length by omega)
 replace HK:=Mk (show K1 = a + ([] ++ s0).length by rw [HE.out];simp only [List.length_append,List.length_nil];omega)
 have mK1 : 1 ≤ K1:=by omega
 have lK1 : K1 ≤ 9000000:=by omega
 replace hle : K1 + (s1.length) ≤ 9000000:=by omega
 clear hK1 hm
 have hx1:=blk_cell BK.out 1
 replace hx1 : _ = some (Value.slice A1 m1 c1):=hx1.trans rfl
 go_wp2_with fail
 clear hx1
 refine (markMarkS_any _ s1 K1 (by omega) _ (RowOf.tp HM.out.tp HV1.out) (by omega) (by omega)).mono ?_
 rintro e w2 ⟨rfl,hm⟩
 replace BK:=Mk ((hm.far g (blk_lt BK.out) (fun p hp e=>by have h1:=HI1.out p hp;have h2:=GW.out;omega)).trans BK.out)
 replace HM:=Mk (Marked.more HM.out (K:=K1) HK.out hm)
 obtain ⟨K2,hK2⟩ : ∃ K_ : Nat,K_ = K1 + s1.length:=⟨_,rfl⟩
 rw [← hK2]
 replace HE:=Mk (show K2 = a + s0.length + s1.length by have:=HE.out;omega)
 replace HK:=Mk (show K2 = a + ([] ++ s0 ++ s1).length by rw [HE.out];simp only [List.length_append,List.length_nil];omega)
 have mK2 : 1 ≤ K2:=by omega
 have lK2 : K2 ≤ 9000000:=by omega
 clear hK2 hm
 go_wp2
 go_ret
 refine ⟨by rw [show a + (s0 ++ s1).length = K2 by rw [HE.out];simp only [List.length_append,Nat.add_assoc]];rfl,?_⟩
 exact by have:=HM.out;simpa only [List.nil_append] using this
set_option maxHeartbeats 2000000 in
set_option maxRecDepth 100000 in
theorem heldShape_any  (v0 : Value) (s0 : List Slot) (v1 : Value) (s1 : List Slot) (a : Nat) {ai : Int} (hai : ai = (a : Int)) (w : World) (hs0 : RowOf (Cel w tyMark) 2 v0 s0) (hs1 : RowOf (Cel w tyMark) 2 v1 s1) (h1 : 1 ≤ a) (hb : a + (s0 ++ s1).length ≤ 9000000) (hh : Held w (s0 ++ s1) a) :
  Calls Tryz.prog 13 #[.agg #[v0,v1],.int .i64 ai] w fun e w'=>e = .returned (.int .i64 ((a + (s0 ++ s1).length : Nat) : Int)) ∧ Below w.heap.size w w':=by
 subst hai
 have hu_:=Tryz.underlying26
 (try simp only [List.length_append] at hb)
 have hle : a + (s0.length + s1.length) ≤ 9000000:=by omega
 clear hb
 have HI0:=Mk (fun p hp=>RowOf.mem hs0 p hp)
 obtain ⟨A0,m0,c0,e0⟩:=hs0.slice
 subst e0
 have HV0:=Mk hs0
 clear hs0
 have HI1:=Mk (fun p hp=>RowOf.mem hs1 p hp)
 obtain ⟨A1,m1,c1,e1⟩:=hs1.slice
 subst e1
 have HV1:=Mk hs1
 clear hs1
 have hq:=hh
 have HH1:=Mk (show Held w s1 (a + s0.length) from by have:=hq.right;simpa only [List.length_append,Nat.add_assoc] using this)
 replace hq:=hq.left
 have HH0:=Mk (show Held w s0 (a) from by have:=hq;simpa only [List.length_append,Nat.add_assoc] using this)
 clear hq hh
 go_enter Tryz.func13,Tryz.ntmps13
 go_wp2_with fail
 obtain ⟨g,hg⟩ : ∃ g,g = w.heap.size:=⟨_,rfl⟩
 obtain ⟨wb,hwb⟩ : ∃ W,W = w.alloc (.cells #[.slice A0 m0 c0,.slice A1 m1 c1] 26):=⟨_,rfl⟩
 rw [← hwb]
 try rw [← hg]
 have BK:=Mk (show wb.heap[g]? = some (.cells #[.slice A0 m0 c0,.slice A1 m1 c1] 26 (0,0)) by rw [hwb,hg];exact heap_alloc_new w _)
 have HB:=Mk (show Below w.heap.size w wb by rw [hwb];exact below_alloc (Below.refl _ _) _)
 have GW:=Mk (show w.heap.size ≤ g by rw [hg];exact Nat.le_refl _)
 clear hwb hg
 refine (heldMarkS_any _ s0 a (by omega) _ (RowOf.tp (TP.of_below HB.out) HV0.out) (by omega) (by omega) (by have:=HH0.out.below HB.out;exact this)).mono ?_
 rintro e w1 ⟨rfl,hb⟩
 replace BK:=Mk (blk_below BK.out hb)
 replace HB:=Mk (below_step HB.out hb)
 obtain ⟨K1,hK1⟩ : ∃ K_ : Nat,K_ = a + s0.length:=⟨_,rfl⟩
 rw [← hK1]
 have HE:=Mk (show K1 = a + s0.length by omega)
 have mK1 : 1 ≤ K1:=by omega
 have lK1 : K1 ≤ 9000000:=by omega
 replace hle : K1 + (s1.length) ≤ 9000000:=by omega
 clear hK1 hb
 have hx1:=blk_cell BK.out 1
 replace hx1 : _ = some (Value.slice A1 m1 c1):=hx1.trans rfl
 go_wp2_with fail
 clear hx1
 refine (heldMarkS_any _ s1 K1 (by omega) _ (RowOf.tp (TP.of_below HB.out) HV1.out) (by omega) (by omega) (by have:=HH1.out.below HB.out;rw [show K1 = a + s0.length by have:=HE.out;omega];exact this)).mono ?_
 rintro e w2 ⟨rfl,hb⟩
 replace BK:=Mk (blk_below BK.out hb)
 replace HB:=Mk (below_step HB.out hb)
 obtain ⟨K2,hK2⟩ : ∃ K_ : Nat,K_ = K1 + s1.length:=⟨_,rfl⟩
 rw [← hK2]
 replace HE:=Mk (show K2 = a + s0.length + s1.length by have:=HE.out;omega)
 have mK2 : 1 ≤ K2:=by omega
 have lK2 : K2 ≤ 9000000:=by omega
 clear hK2 hb
 go_wp2
 go_ret
 refine ⟨by rw [show a + (s0 ++ s1).length = K2 by rw [HE.out];simp only [List.length_append,Nat.add_assoc]];rfl,?_⟩
 exact HB.out
abbrev S62:=OFnExactShapeFirst.S62
abbrev k62:=OFnExactShapeFirst.k62
abbrev kMarkD : Kd S62:=Kd.iso (pr Kd.string (sl 3 (Kd.int .i64))) (fun x=>(x.f0,x.f1))
theorem kMarkD_mkM {w : World} {base : Nat} {ok : Nat → Prop} {x : S62} {v : Value} {c : Nat} (hl : x.f1.length ≤ c) (h : Kd.S (Kd.int .i64) 3 w base ok v x.f1) : kMarkD.M w base ok x [.string x.f0,cutV v c] :=
 ⟨[.string x.f0],[cutV v c],rfl,fun _=>False,rfl,v,c,rfl,hl,Kd.S_mono h (fun k hk=>⟨hk,fun h=>h⟩)⟩
set_option maxHeartbeats 2000000 in
set_option maxRecDepth 100000 in
theorem copyMarks_own (A0 : Option Addr) (c0 : Nat) (l0 : List S62) (w : World) (hr0 : Kd.C k62 w A0 l0.length l0) (hc0 : l0.length ≤ c0) (hl : l0.length < 2199023255552) (hf : ∀ x ∈ l0,x.f1.length < 4398046511104) :
  Calls Tryz.prog 65 #[.slice A0 l0.length c0] w fun e w'=>∃ A c,e = .returned (.slice A l0.length l0.length) ∧ Kd.S kMarkD 62 w' w.heap.size (fun k=>w.heap.size ≤ k) (.slice A l0.length c) l0 ∧ Below w.heap.size w w':=by
 have HR0:=Mk hr0
 have HF:=Mk hf
 have HB:=Mk (Below.refl w.heap.size w)
 have HL:=Mk hl
 have hlm : l0.length ≤ 9223372036854775807:=by omega
 have hu62:=Tryz.underlying62
 clear hr0 hl hf
 go_enter Tryz.func65,Tryz.ntmps65
 go_wp2_with (first
  | ((with_reducible refine gate_dst (N:=6) rfl ?_);refine Kd.S_lit kMarkD _ 62 ?hg (N:=6) ?hd (xs:=([] : List S62)) (inner:=[]) (ok:=fun k=>w.heap.size ≤ k) (okp:=fun _=>False) ?hr ?hp (fun _ hk=>hk.elim) (Nat.le_refl _) (Below.refl _ _) (Nat.le_refl _) (by simp) ?_;(case hd=>rfl);(case hg=>rfl);(case hr=>first | (go_simp;done) | (go_simp;rfl));(case hp=>exact (Reps.none _ _));intro v3 w4 ho hb hg_ hnew_;clear hg_ hnew_;have HO:=Mk ho;replace HB:=Mk hb;clear hb ho))
 go_loopw [3,9] (fun v3 v9 wr=>∃ i : Nat,i ≤ l0.length ∧ v9 = .int .i64 i ∧ Aside0 (Kd.S kMarkD 62 wr w.heap.size (fun k=>w.heap.size ≤ k) v3 (l0.take i)) ∧ Aside0 (Below w.heap.size w wr)) (fun _ v9 _=>l0.length - (intOf v9).toNat)
 case atStart=>exact ⟨0,Nat.zero_le _,rfl,HO,HB⟩
 case round =>
  clear HO HB
  obtain ⟨i,hi,rfl,HO,HB⟩:=hrel
  by_cases hlt : i < l0.length
  ·obtain ⟨ad,A1,c1,ea,hx0,hx1,hl1,hi1⟩:=OFnExactShapeFirst.at_T62 HR0.out (i : Int) (by omega) (by omega)
   have hrd : OFnExactShapeFirst.rd_T62 l0 (i : Int) = l0[i]:=by simp [OFnExactShapeFirst.rd_T62,hlt]
   rw [hrd] at hx0 hx1 hl1 hi1
   have hff:=HF.out l0[i] (List.getElem_mem hlt)
   have hts : l0.take (i + 1) = l0.take i ++ [l0[i]]:=List.take_succ_eq_append_getElem hlt
   generalize l0[i] = x at hx0 hx1 hl1 hi1 hff hts
   have HTS:=Mk hts
   cases ea
   rw [Int.toNat_natCast] at hx0 hx1
   have hx0:=(HB.out.cell (World.block_lt_of_cell? w _ hx0)).trans hx0
   have hx1:=(HB.out.cell (World.block_lt_of_cell? w _ hx1)).trans hx1
   have HC1:=Mk hi1
   have HL1:=Mk hl1
   have HFF:=Mk hff
   clear hi1 hl1 hrd hff hts
   go_wp2_with fail
   obtain ⟨g,hg⟩ : ∃ g,g = wr.heap.size:=⟨_,rfl⟩
   obtain ⟨wb,hwb⟩ : ∃ W,W = wr.alloc (.cells #[.string x.f0,.slice A1 x.f1.length c1] 62):=⟨_,rfl⟩
   rw [← hwb,← hg]
   have hBb : Below wr.heap.size wr wb:=by rw [hwb];exact below_alloc (Below.refl _ _) _
   have BK:=Mk (show wb.heap[g]? = some (.cells #[.string x.f0,.slice A1 x.f1.length c1] 62 (0,0)) by rw [hwb,hg];exact heap_alloc_new wr _)
   replace HO:=Mk (Kd.S_mono (ok':=fun k=>w.heap.size ≤ k ∧ k < g) (Kd.S_below (Kd.S_bound HO.out) hBb) (fun k hk=>⟨hk.1,by rw [hg];exact hk.2.2.1⟩))
   have GW:=Mk (show w.heap.size ≤ g by rw [hg];exact HB.out.size)
   replace HB:=Mk (below_step HB.out hBb)
   have GS:=Mk (show g < wb.heap.size from blk_lt BK.out)
   clear hwb hg hBb hx0 hx1
   replace HO:=Mk (Kd.S_drew HO.out)
   replace BK:=Mk (blk_drew BK.out)
   replace HB:=Mk (below_drew1 HB.out)
   replace GS:=Mk (show g < wb.drew.heap.size from GS.out)
   refine start_ (n:=10) (S:=fun w'=>w'.cell? ⟨g,0,none⟩ = some (.string x.f0) ∧ w'.cell? ⟨g,1,none⟩ = some (.slice A1 x.f1.length c1)) (ds:=[]) #[false,false,false,false,false,false,false,false,false,false] (by kernel_rfl) rfl rfl ⟨U.c0 BK,U.c1 BK⟩ (fun hHeld=>?_)
   refine with_tabW OFnExactShapeFirst.impl_copyMarks.tab5 OFnExactShapeFirst.impl_copyMarks.bits5 (fun HT_ HW_=>?_)
   generalize wb.drew = w12 at HO BK HB GS hHeld ⊢
   refine U.pu 0 (some 13) HT_ ?_
   refine U.pu 1 (some 14) HT_ ?_
   refine U.pu 3 (some 16) HT_ ?_
   refine U.tk 2 (some 15) HT_ HW_ hHeld ?_ (hy:=by rintro w' ⟨s0,s1⟩;go_simp;with_reducible rfl)
   refine U.tk 4 (some 17) HT_ HW_ hHeld ?_ (hy:=by rintro w' ⟨s0,s1⟩;go_simp;with_reducible rfl)
   refine U.on 5 (some 18) HT_ (fun K hK=>?_)
   refine U.go Tryz.func89 #[.slice A1 x.f1.length c1] ?_
   with_reducible refine (copyInts_own A1 c1 x.f1 _ (Kd.C_below HC1.out HB.out) HL1.out HFF.out).mono ?_
   rintro e w13 ⟨A2,c2,rfl,hs,hb⟩
   refine ⟨_,rfl,?_⟩
   have GW2:=Mk (show g < w12.heap.size from GS.out)
   have HS:=Mk (Kd.S_mono (ok':=fun k=>g < k) hs (fun k hk=>Nat.lt_of_lt_of_le GS.out hk))
   replace HS:=Mk (Kd.S_lower HS.out (show w.heap.size ≤ w12.heap.size from HB.out.size))
   replace HO:=Mk (Kd.S_below HO.out hb)
   replace BK:=Mk (blk_below BK.out hb)
   replace HB:=Mk (below_step HB.out hb)
   have hcl:=(Kd.S_reads' hs).2.1
   clear hs hb GS GW2
   refine hK.out _ _ ⟨U.c0 BK,U.c1 BK⟩ (fun hHeld=>?_)
   clear hK K
   refine U.nm 18 ?_
   refine U.pu 6 (some 19) HT_ ?_
   refine U.on 7 (some 20) HT_ (fun K hK=>?_)
   refine value_ (w1:=?_) (v:=?_) (by rfl) rfl ?_ ?_
   rotate_left 2
   ·go_simp
    constructor
    ·rfl
    ·rfl
   refine hK.out _ _ ⟨(blk_cell (blk_alloc BK.out _) 0).trans rfl,(blk_cell (blk_alloc BK.out _) 1).trans rfl⟩ (fun hHeld=>?_)
   clear hK K
   refine U.nm 20 ?_
   refine U.on 8 (some 21) HT_ (fun K hK=>?_)
   refine Kd.S_append_step kMarkD (w0:=w) w.heap.size (by rfl) (.tmp 13) (.tmp 20) 24 62 (.agg #[(.string ⟨#[]⟩),(.slice none 0 0)]) 40 rfl Tryz.underlying24 OFnExactShapeFirst.info62 rfl (by decide) (by omega) u3 (l0.take i) x [.string x.f0,.slice A2 x.f1.length x.f1.length] (fun k=>w.heap.size ≤ k) (fun k=>g < k) rfl rfl ?aP ?aX ?aF ?aO ?aB ?aS ?aL ?_
   case aP=>exact kMarkD_mkM (v:=.slice A2 x.f1.length c2) (Nat.le_refl _) HS.out
   case aX=>exact fun k hk=>⟨by have:=GW.out;omega,fun he=>by have:=(HO.out.choose_spec.1 k he.symm).2;omega⟩
   case aF=>exact fun k hk=>Nat.le_trans HB.out.size hk
   case aO=>exact Kd.S_mono HO.out (fun k hk=>⟨hk.1,fun h=>by have:=hk.2;omega⟩)
   case aB=>exact HB.out
   case aS=>exact HB.out.size
   case aL=>have h1:=HL.out;have h2:=List.length_take_le i l0;omega
   intro v15 w15 ho hb hgr hat
   rw [← HTS.out] at ho
   replace BK:=Mk (blk_grown BK.out hgr (fun he=>by have:=(HO.out.choose_spec.1 g he.symm).2;omega))
   replace HB:=Mk hb
   replace HO:=Mk ho
   clear ho hb hgr hat
   refine hK.out _ _ ⟨U.c0 BK,U.c1 BK⟩ (fun hHeld=>?_)
   clear hK K
   refine U.nm 21 ?_
   refine U.pu 9 (some 3) HT_ ?_
   refine done_ (done_of HT_.out (by kernel_rfl)) ?_
   try go_wp2
   go_roundw
   case rel=>exact ⟨i + 1,by omega,by go_num,HO,HB⟩
   case measure=>simp [intOf];omega
  ·have hie : i = l0.length:=by omega
   have HI:=Mk hie
   clear hie
   obtain ⟨A5,c5,e5⟩:=Kd.S_slice HO.out
   rw [HI.out,List.take_length] at e5
   replace HO:=Mk (show Kd.S kMarkD 62 wr w.heap.size (fun k=>w.heap.size ≤ k) u3 l0 by have:=HO.out;rwa [HI.out,List.take_length] at this)
   subst e5
   go_wp2_with (go_at_call 108;refine (clip_mark A5 l0.length c5 _ (Kd.S_reads' HO.out).2.1 hlm).mono ?_;rintro e w7 ⟨rfl,hb⟩;replace HO:=Mk (Kd.S_below HO.out hb);replace HB:=Mk (below_step HB.out hb);clear hb)
   go_ret
   exact ⟨A5,c5,rfl,HO.out,HB.out⟩
abbrev kRowsS:=pr (sl 62 kMarkD) (sl 62 kMarkD)
def ShapeOwn (w : World) (base : Nat) (S P : List S62) (cs : List Value) : Prop:=kRowsS.M w base (fun k=>base ≤ k) (S,P) cs
theorem ShapeOwn.mk {w : World} {base b0 b1 : Nat} {A0 A1 : Option Addr} {c0 c1 : Nat} {S P : List S62} (hb : base ≤ b0) (h01 : b0 ≤ b1)
  (h0 : Kd.S kMarkD 62 w base (fun k=>b0 ≤ k ∧ k < b1) (.slice A0 S.length c0) S) (h1 : Kd.S kMarkD 62 w base (fun k=>b1 ≤ k) (.slice A1 P.length c1) P) :
  ShapeOwn w base S P [.slice A0 S.length S.length,.slice A1 P.length P.length] :=
 ⟨[_],[_],rfl,fun k=>b0 ≤ k ∧ k < b1,⟨.slice A0 S.length c0,S.length,rfl,Nat.le_refl _,Kd.S_mono h0 (fun k hk=>⟨by omega,hk⟩)⟩,⟨.slice A1 P.length c1,P.length,rfl,Nat.le_refl _,Kd.S_mono h1 (fun k hk=>⟨by omega,by omega⟩)⟩⟩
theorem ShapeOwn.step {w w1 : World} {base : Nat} {S P : List S62} {cs : List Value} (h : ShapeOwn w base S P cs) (hm : ∀ k,base ≤ k → k < w.heap.size → w1.heap[k]? = w.heap[k]?) : ShapeOwn w1 base S P cs:=Kd.M_step (d:=kRowsS) h hm
theorem ShapeOwn.lower {w : World} {base b' : Nat} {S P : List S62} {cs : List Value} (h : ShapeOwn w base S P cs) (hb : b' ≤ base) : ShapeOwn w b' S P cs:=kRowsS.M_mono (fun k hk=>Nat.le_trans hb hk) (kRowsS.M_lower hb h)
abbrev lensM (l : List S62) : Prop:=l.length < 2199023255552 ∧ ∀ x ∈ l,x.f1.length < 4398046511104
set_option maxHeartbeats 2000000 in
set_option maxRecDepth 100000 in
theorem copyShape_own (A0 A1 : Option Addr) (c0 c1 : Nat) (S P : List S62) (w : World) (h0 : Kd.C k62 w A0 S.length S) (hc0 : S.length ≤ c0) (h1 : Kd.C k62 w A1 P.length P) (hc1 : P.length ≤ c1) (hS : lensM S) (hP : lensM P) :
  Calls Tryz.prog 27 #[.agg #[.slice A0 S.length c0,.slice A1 P.length c1]] w fun e w'=>∃ B0 B1,e = .returned (.agg #[.slice B0 S.length S.length,.slice B1 P.length P.length]) ∧ ShapeOwn w' w.heap.size S P [.slice B0 S.length S.length,.slice B1 P.length P.length] ∧ Below w.heap.size w w':=by
 have hu_:=Tryz.underlying26
 have H0:=Mk h0
 have H1:=Mk h1
 have HS:=Mk hS
 have HP:=Mk hP
 have HB:=Mk (Below.refl w.heap.size w)
 clear h0 h1 hS hP
 go_enter Tryz.func27,Tryz.ntmps27
 go_wp2_with (first
  | ((with_reducible refine gate_dst (N:=1) rfl ?_);refine U.bx 1 26 #[.slice A0 S.length c0,.slice A1 P.length c1] ?_;intro g1 hg w1 hbox hb;have BK1:=Mk hbox;have G1:=Mk (show w.heap.size ≤ g1 by rw [hg];exact HB.out.size);replace HB:=Mk (below_step HB.out hb);clear hg hbox hb)
  | ((with_reducible refine gate_dst (N:=2) rfl ?_);refine U.bx 2 26 #[.slice none 0 0,.slice none 0 0] ?_;intro g2 hg w2 hbox hb;have G2:=Mk (show g1 < g2 by rw [hg];exact blk_lt BK1.out);replace BK1:=Mk (blk_below BK1.out hb);have BK2:=Mk hbox;replace HB:=Mk (below_step HB.out hb);clear hg hbox hb))
 have NG:=Mk (show g1 ≠ g2 from Nat.ne_of_lt G2.out)
 have GW:=Mk (show w.heap.size ≤ g2 from Nat.le_trans G1.out (Nat.le_of_lt G2.out))
 have GL:=Mk (blk_lt BK2.out)
 clear G2
 replace BK1:=Mk (blk_drew BK1.out)
 replace BK2:=Mk (blk_drew BK2.out)
 replace HB:=Mk (below_drew1 HB.out)
 replace GL:=Mk (show g2 < w2.drew.heap.size from GL.out)
 refine start_ (n:=8) (S:=fun w'=>w'.cell? ⟨g1,0,none⟩ = some (.slice A0 S.length c0) ∧ w'.cell? ⟨g1,1,none⟩ = some (.slice A1 P.length c1)) (ds:=[]) #[false,false,false,false,false,false,false,false] (by kernel_rfl) rfl rfl ⟨U.c0 BK1,U.c1 BK1⟩ (fun hHeld=>?_)
 refine with_tabW OFnExactShapeFirst.impl_copyShape.tab1 OFnExactShapeFirst.impl_copyShape.bits1 (fun HT_ HW_=>?_)
 generalize w2.drew = w6 at BK1 BK2 HB GL hHeld ⊢
 refine U.pu 0 (some 3) HT_ ?_
 refine U.pu 3 (some 6) HT_ ?_
 refine U.tk 1 (some 4) HT_ HW_ hHeld ?_ (hy:=by rintro w' ⟨s0,s1⟩;go_simp;with_reducible rfl)
 refine U.tk 4 (some 7) HT_ HW_ hHeld ?_ (hy:=by rintro w' ⟨s0,s1⟩;go_simp;with_reducible rfl)
 refine U.on 2 (some 5) HT_ (fun K hK=>?_)
 refine U.go Tryz.func65 #[.slice A0 S.length c0] ?_
 with_reducible refine (copyMarks_own A0 c0 S _ (Kd.C_below H0.out HB.out) hc0 HS.out.1 HS.out.2).mono ?_
 rintro e z1 ⟨B0,d0,rfl,hs,hb⟩
 refine ⟨_,rfl,?_⟩
 have HS0:=Mk (Kd.S_mono (ok':=fun k=>w6.heap.size ≤ k ∧ k < z1.heap.size) (Kd.S_bound hs) (fun k hk=>⟨hk.1,hk.2.2.1⟩))
 have L0:=Mk hb.size
 have V0:=Mk HB.out.size
 replace BK1:=Mk (blk_below BK1.out hb)
 replace BK2:=Mk (blk_below BK2.out hb)
 replace HB:=Mk (below_step HB.out hb)
 clear hs hb
 refine hK.out _ _ ⟨U.c0 BK1,U.c1 BK1⟩ (fun hHeld=>?_)
 clear hK K
 refine U.nm 5 ?_
 refine U.on 5 (some 8) HT_ (fun K hK=>?_)
 refine U.go Tryz.func65 #[.slice A1 P.length c1] ?_
 with_reducible refine (copyMarks_own A1 c1 P _ (Kd.C_below H1.out HB.out) hc1 HP.out.1 HP.out.2).mono ?_
 rintro e z2 ⟨B1,d1,rfl,hs,hb⟩
 refine ⟨_,rfl,?_⟩
 have HS1:=Mk hs
 replace HS0:=Mk (Kd.S_below HS0.out hb)
 replace BK1:=Mk (blk_below BK1.out hb)
 replace BK2:=Mk (blk_below BK2.out hb)
 replace HB:=Mk (below_step HB.out hb)
 clear hs hb
 refine hK.out _ _ ⟨U.c0 BK1,U.c1 BK1⟩ (fun hHeld=>?_)
 clear hK K
 refine U.nm 8 ?_
 refine U.pu 6 (some 9) HT_ ?_
 refine U.on 7 none HT_ (fun K hK=>?_)
 have hs0:=U.c0 BK2
 have hf0:=blk_frozen BK2.out 0
 have hs1:=U.c1 BK2
 have hf1:=blk_frozen BK2.out 1
 refine skip_ (w1:=?_) (by rfl) rfl ?_ ?_
 rotate_left
 ·go_simp
  rfl
 have hcell : ∀ (W : World) (j : Nat) (u0 u1 : Value),((W.setCell ⟨g2,0,none⟩ u0).setCell ⟨g2,1,none⟩ u1).cell? ⟨g1,j,none⟩ = W.cell? ⟨g1,j,none⟩:=fun W j u0 u1=>by
  have hn : ∀ i,(⟨g2,i,none⟩ : Addr) ≠ ⟨g1,j,none⟩:=fun i e=>NG.out (by injection e with e1 _;exact e1.symm)
  rw [World.cell?_setCell_other _ _ _ _ (hn 1),World.cell?_setCell_other _ _ _ _ (hn 0)]
 refine hK.out _ _ ⟨(hcell _ 0 _ _).trans hHeld.1,(hcell _ 1 _ _).trans hHeld.2⟩ (fun hHeld=>?_)
 clear hcell
 clear hK K
 refine done_ (done_of HT_.out (by kernel_rfl)) ?_
 try go_wp2
 refine bodyPost_ret (results_cell_row rfl _ _ g2 26 #[.slice B0 S.length S.length,.slice B1 P.length P.length] (0,0) _ rfl (U.Kx BK2) Tryz.underlying26 rfl (by kernel_rfl)) rfl ?_
 have hfar : ∀ (W : World) (k : Nat) (u0 u1 : Value),k ≠ g2 → ((W.setCell ⟨g2,0,none⟩ u0).setCell ⟨g2,1,none⟩ u1).heap[k]? = W.heap[k]?:=fun W k u0 u1 h=>by rw [Below.heap_setCell _ _ _ k h,Below.heap_setCell _ _ _ k h]
 have n1:=L0.out
 have n2:=GL.out
 have n3:=V0.out
 refine ⟨B0,B1,rfl,ShapeOwn.mk (b0:=w6.heap.size) (b1:=z1.heap.size) (c0:=d0) (c1:=d1) n3 n1 ?_ ?_,?_⟩
 ·exact Kd.S_step (Kd.S_mono (Kd.S_lower HS0.out (by omega)) (fun k hk=>hk)) (fun k hk _=>hfar _ k _ _ (by omega))
 ·exact Kd.S_step (Kd.S_mono (Kd.S_lower HS1.out (by omega)) (fun k hk=>hk)) (fun k hk _=>hfar _ k _ _ (by omega))
 ·have h:=GW.out
  exact (HB.out.setCell h _).setCell h _
abbrev S57:=OFnExactShapeFirst.S57
abbrev S40:=OFnExactShapeFirst.S40
abbrev k40:=OFnExactShapeFirst.k40
theorem isRef_any (t : ByteArray) (w : World) : Calls Tryz.prog 26 #[.string t] w fun e w'=>e = .returned (.bool (isRef t)) ∧ Below w.heap.size w w':=by
 refine (OFnExactShapeFirst.impl_isRef.calls t (isRef t) w (eq_impl_isRef t)).mono ?_
 rintro e w' ⟨rfl,⟨nd,rfl⟩⟩
 exact ⟨rfl,pw_below_drewN (Below.refl _ _) _⟩
theorem lens_marks (F : S57) (h1 : F.f1.length ≤ 1048576) (h3 : F.f3.length ≤ 1048576) : lensM (marksOf F):=by
 unfold lensM marksOf
 refine ⟨by rw [List.length_append,List.length_map,List.length_map];omega,fun x hx=>?_⟩
 rcases List.mem_append.1 hx with hx | hx
 ·obtain ⟨t,_,rfl⟩:=List.mem_map.1 hx
  unfold markOf
  dsimp only
  split<;>simp
 ·obtain ⟨t,_,rfl⟩:=List.mem_map.1 hx
  simp
set_option maxHeartbeats 4000000 in
set_option maxRecDepth 100000 in
theorem shapeFirst_yes (A0 : Option Addr) (c0 : Nat) (l0 : List S40) (a1 a2 : Int) (F : S57) (q : Nat) (w : World) (hT : OFnExactShapeFirst.Tab w) (hr0 : Kd.C k40 w A0 l0.length l0) (hc0 : l0.length ≤ c0)
  (hs : OFnExactShapeFirst.impl_ShelfShape.f q l0 = some true) (hf : OFnExactShapeFirst.impl_ShelfFunc.f l0 a1 a2 = some (F.f0,F.f1,F.f2,F.f3,F.f4,F.f5,true)) (h1 : F.f1.length ≤ 1048576) (h3 : F.f3.length ≤ 1048576) :
  Calls Tryz.prog 8 #[.slice A0 l0.length c0,.int .i64 a1,.int .i64 a2] w fun e w'=>∃ B0 B1,e = .returned (.tuple #[.agg #[.slice B0 0 0,.slice B1 (marksOf F).length (marksOf F).length],.bool true]) ∧
   ShapeOwn w' w.heap.size [] (marksOf F) [.slice B0 0 0,.slice B1 (marksOf F).length (marksOf F).length] ∧ Below w.heap.size w w':=by
 have hu_:=Tryz.underlying26
 have hu2:=Tryz.underlying57
 have hu3:=Tryz.underlying62
 have HR:=Mk hr0
 have HT:=Mk hT
 have HF:=Mk hf
 have HS:=Mk hs
 have HB:=Mk (Below.refl w.heap.size w)
 clear hr0 hT hf hs
 go_enter Tryz.func8,Tryz.ntmps8
 go_wp2_with (first
  | ((with_reducible refine gate_dst (N:=6) rfl ?_);refine U.bx 6 26 #[.slice none 0 0,.slice none 0 0] ?_;intro g6 hg w1 hbox hb;have BK6:=Mk hbox;have GW6:=U.gw hg HB;replace HB:=U.BB HB hb;clear hg hbox hb)
  | ((with_reducible refine gate_callee (f:=24) rfl ?_);refine U.gl (some 15) Tryz.func24 #[.slice A0 l0.length c0] ?_;refine (OFnExactShapeFirst.impl_ShelfShape.calls (hT_:=HT.out.below (U.Bx HB)) q A0 c0 l0 true _ (U.Cx HR HB) hc0 HS.out).mono ?_;rintro e w2 ⟨rfl,hb⟩;refine ⟨_,rfl,?_⟩;replace BK6:=U.KB BK6 hb;replace HB:=U.BB HB hb;clear hb)
  | ((with_reducible refine gate_callee (f:=25) rfl ?_);refine U.gl (some 22) Tryz.func25 #[.slice A0 l0.length c0,.int .i64 a1,.int .i64 a2] ?_;refine (OFnExactShapeFirst.impl_ShelfFunc.calls A0 c0 l0 a1 a2 F.f0 F.f1 F.f2 F.f3 F.f4 F.f5 true _ (U.Cx HR HB) hc0 HF.out).mono ?_;rintro e w3 ⟨v1,v2,v3,v4,v5,rfl,ho1,ho2,ho3,ho4,ho5,hb⟩;refine ⟨_,rfl,?_⟩;obtain ⟨A1,c1,e1⟩:=Kd.V_slice ho1;obtain ⟨A2,c2,e2⟩:=Kd.V_slice ho2;obtain ⟨A3,c3,e3⟩:=Kd.V_slice ho3;obtain ⟨A4,c4,e4⟩:=Kd.V_slice ho4;obtain ⟨A5,c5,e5⟩:=Kd.V_slice ho5;subst e1;subst e2;subst e3;subst e4;subst e5;have HA:=Mk (Kd.V_reads' ho1).2.2;have HB3:=Mk (Below.refl w3.heap.size w3);replace BK6:=U.KB BK6 hb;replace HB:=U.BB HB hb;clear hb ho1 ho2 ho3 ho4 ho5))
 obtain ⟨g8,hg8⟩ : ∃ g,g = w3.heap.size:=⟨_,rfl⟩
 obtain ⟨g,hg⟩ : ∃ g,g = w3.heap.size + 1:=⟨_,rfl⟩
 obtain ⟨w4,hw4⟩ : ∃ W,W = w3.alloc (.cells #[.int .i64 F.f0,.slice A1 F.f1.length c1,.slice A2 F.f2.length c2,.slice A3 F.f3.length c3,.slice A4 F.f4.length c4,.slice A5 F.f5.length c5] 57):=⟨_,rfl⟩
 obtain ⟨w5,hw5⟩ : ∃ W,W = w4.alloc (.cells #[.slice none 0 0,.slice none 0 0] 26):=⟨_,rfl⟩
 rw [← hw4,← hw5,← hg,← hg8]
 have hb4 : Below w3.heap.size w3 w4:=by rw [hw4];exact below_alloc (Below.refl _ _) _
 have hs4 : g = w4.heap.size:=by rw [hw4,hg];simp
 have BK8:=Mk (show w4.heap[g8]? = some (.cells #[.int .i64 F.f0,.slice A1 F.f1.length c1,.slice A2 F.f2.length c2,.slice A3 F.f3.length c3,.slice A4 F.f4.length c4,.slice A5 F.f5.length c5] 57 (0,0)) by rw [hw4,hg8];exact heap_alloc_new w3 _)
 replace BK6:=Mk (blk_below BK6.out hb4)
 replace HA:=Mk (Kd.C_below HA.out hb4)
 replace HB:=Mk (below_step HB.out hb4)
 have BK:=Mk (show w5.heap[g]? = some (.cells #[.slice none 0 0,.slice none 0 0] 26 (0,0)) by rw [hw5,hs4];exact heap_alloc_new w4 _)
 have HL:=Mk (show Below w4.heap.size w4 w5 by rw [hw5];exact below_alloc (Below.refl _ _) _)
 have GL:=Mk hs4
 clear hb4 hs4 hg hg8 hw4 hw5 HB3
 go_loopw [32] (fun v32 wr=>∃ (i : Nat) (u : Value),i ≤ F.f1.length ∧ v32 = .int .i64 i ∧ Aside0 (Kd.S OFnExactShapeFirst.k62 62 wr w4.heap.size (fun k=>g < k) u ((F.f1.take i).map markOf)) ∧ Aside0 (wr.heap[g]? = some (.cells #[.slice none 0 0,u] 26 (0,0))) ∧ Aside0 (Below w4.heap.size w4 wr)) (fun v32 _=>F.f1.length - (intOf v32).toNat)
 case atStart=>exact ⟨0,_,Nat.zero_le _,rfl,⟨Kd.S_nil _ _ _ _ _⟩,BK,HL⟩
 case round =>
  clear BK HL
  obtain ⟨i,u,hi,rfl,HO,BK,HL⟩:=hrel
  by_cases hlt : i < F.f1.length
  ·obtain ⟨ad,ea,hx⟩:=Kd.at_string HA.out (i : Int) (by omega) (by omega)
   have hrd : rdOf ByteArray.empty F.f1 (i : Int) = F.f1[i]:=getDn hlt
   rw [hrd] at hx
   have hts : (F.f1.take (i + 1)).map markOf = (F.f1.take i).map markOf ++ [markOf F.f1[i]]:=by rw [List.take_succ_eq_append_getElem hlt,List.map_append];rfl
   generalize F.f1[i] = t at hx hts
   have HTS:=Mk hts
   have hx:=(HL.out.cell (World.block_lt_of_cell? w4 _ hx)).trans hx
   rw [Int.toNat_natCast] at hx
   cases ea
   clear hts hrd
   go_wp2_with fail
   obtain ⟨gm,hgm⟩ : ∃ x,x = wr.heap.size:=⟨_,rfl⟩
   obtain ⟨w6,hw6⟩ : ∃ W,W = wr.alloc (.cells #[.string t,.slice none 0 0] 62):=⟨_,rfl⟩
   rw [← hw6,← hgm]
   refine (isRef_any t _).mono ?_
   rintro e w7 ⟨rfl,hb⟩
   have hb6 : Below wr.heap.size wr w7:=below_step (by rw [hw6];exact below_alloc (Below.refl _ _) _) hb
   have BM:=Mk (blk_below (show w6.heap[gm]? = some (.cells #[.string t,.slice none 0 0] 62 (0,0)) by rw [hw6,hgm];exact heap_alloc_new wr _) hb)
   have GM:=Mk (show g < gm by rw [hgm];exact blk_lt BK.out)
   replace HO:=Mk (Kd.S_mono (ok':=fun k=>g < k ∧ k < gm) (Kd.S_below (Kd.S_bound HO.out) hb6) (fun k hk=>⟨hk.1,by rw [hgm];exact hk.2.2.1⟩))
   replace BK:=Mk (blk_below BK.out hb6)
   replace HL:=Mk (below_step HL.out hb6)
   clear hb hb6 hgm hw6 hx
   by_cases hr : isRef t = true
   ·rw [hr]
    have em : markOf t = ⟨t,[9]⟩:=by unfold markOf;rw [if_pos hr]
    obtain ⟨Y,hY⟩ : ∃ Y,Y = (F.f1.take (i + 1)).map markOf:=⟨_,rfl⟩
    have HY:=Mk (show (F.f1.take i).map markOf ++ [(⟨t,[9]⟩ : S62)] = Y by rw [hY,HTS.out,em])
    have HZ:=Mk hY
    clear hY
    go_wp2_with (first
    | ((with_reducible refine gate_dst (N:=40) rfl ?_);refine Kd.R_lit (Kd.int .i64) _ 3 ?hg (N:=40) ?hd (xs:=([9] : List Int)) (inner:=[.int .i64 9]) (ok:=fun _=>True) (okp:=fun _=>True) ?hr ?hp (fun _ hk=>hk) trivial (Below.refl _ _) (Nat.le_refl _) (by simp) ?_;(case hd=>rfl);(case hg=>rfl);(case hr=>first | (go_simp;done) | (go_simp;rfl));(case hp=>exact (Reps.one (show Kd.M (Kd.int .i64) _ _ _ 9 [.int .i64 9] from rfl) (Reps.none _ _)));intro v9 w8 ho hb hg_ hnew_;clear hg_ hnew_;obtain ⟨A9,c9,rfl⟩:=Kd.R_slice ho;have HN:=Mk (Kd.R_lower (Kd.R_mono (ok':=fun k=>gm < k) (Kd.R_bound ho) (fun k hk=>Nat.lt_of_lt_of_le (blk_lt BM.out) hk.2.1)) HL.out.size);replace HO:=Mk (Kd.S_below HO.out hb);replace BM:=Mk (blk_below BM.out hb);replace BK:=Mk (blk_below BK.out hb);replace HL:=Mk (below_step HL.out hb);clear ho hb;have hm0:=U.c0 BM;have hm1:=U.c1 BM;have hm2:=blk_frozen BM.out 1)
    | ((with_reducible refine gate_store (t:=38) (p:=41) rfl ?_);refine store_event (t:=38) (p:=41) (v:=?vo_) (w1:=(w8.setCell ⟨gm,1,none⟩ (.slice A9 1 c9))) ?hg ?ho ?hn ?hr ?_;(case ho=>rfl);(case hg=>rfl);(case hn=>rfl);(case hr=>first | (go_simp;done) | (go_simp;rfl));intro wx hw;replace HN:=Mk (show Kd.R (Kd.int .i64) 3 wx w4.heap.size (fun k=>gm < k) (.slice A9 1 c9) [9] by rw [hw];exact Kd.R_far (p:=⟨gm,1,none⟩) HN.out (fun k hk=>Nat.ne_of_gt hk) _);replace HO:=Mk (show Kd.S OFnExactShapeFirst.k62 62 wx w4.heap.size (fun k=>g < k ∧ k < gm) u ((F.f1.take i).map markOf) by rw [hw];exact Kd.S_far (p:=⟨gm,1,none⟩) HO.out (fun k hk=>Nat.ne_of_lt hk.2) _);replace BM:=Mk (show wx.heap[gm]? = some (.cells #[.string t,.slice A9 1 c9] 62 (0,0)) by rw [hw];exact blk_put BM.out 1 _ rfl);replace BK:=Mk (show wx.heap[g]? = some (.cells #[.slice none 0 0,u] 26 (0,0)) by rw [hw];exact blk_far BK.out (Nat.ne_of_lt GM.out) _);replace HL:=Mk (show Below w4.heap.size w4 wx by rw [hw];exact HL.out.setCell (by have:=GM.out;have:=GL.out;show _ ≤ gm;omega) _);clear hw hm0 hm1 hm2;have hm0:=U.c0 BM;have hm1:=U.c1 BM;have hk0:=U.c0 BK;have hk1:=U.c1 BK)
    | ((with_reducible refine gate_builtin (b:=.append) (xs:=#[.tmp 43,.tmp 45]) rfl ?_);at_builtin;refine Kd.S_append OFnExactShapeFirst.k62 (w0:=w4) w4.heap.size rfl (.tmp 43) (.tmp 45) 24 62 (.agg #[(.string ⟨#[]⟩),(.slice none 0 0)]) 40 rfl Tryz.underlying24 OFnExactShapeFirst.info62 rfl (by decide) (by omega) u ((F.f1.take i).map markOf) (⟨t,[9]⟩ : S62) [.string t,.slice A9 1 c9] (fun k=>g < k) (fun k=>gm < k) rfl rfl ?aP ?aX ?aF ?aO ?aB ?aS ?aL ?_;(case aP=>exact OFnExactShapeFirst.k62_mkM _ _ _ (⟨t,[9]⟩ : S62) HN.out);(case aX=>exact fun k hk=>⟨Nat.lt_trans GM.out hk,fun he=>by have:=(HO.out.choose_spec.1 k he.symm).2;omega⟩);(case aF=>exact fun k hk=>Nat.lt_of_lt_of_le (blk_lt BK.out) hk);(case aO=>exact Kd.S_mono HO.out (fun k hk=>⟨hk.1,by have:=hk.2;omega⟩));(case aB=>exact HL.out);(case aS=>exact HL.out.size);(case aL=>rw [List.length_map];have:=List.length_take_le i F.f1;omega);intro v1 w9 ho hb hgr hat;replace BK:=Mk (blk_grown BK.out hgr (Kd.S_away HO.out (fun k hk=>Nat.ne_of_gt hk.1)));replace HL:=Mk hb;rw [HY.out] at ho;replace HO:=Mk ho;obtain ⟨Av,cv,rfl⟩:=Kd.S_slice ho;clear ho hb hgr hat;have hk0:=U.c0 BK;have hk1:=U.c1 BK;have hk2:=blk_frozen BK.out 1))
    go_roundw
    case rel=>exact ⟨i + 1,_,by omega,by go_num,⟨by rw [← HZ.out];exact Kd.S_far (p:=⟨g,1,none⟩) HO.out (fun k hk=>Nat.ne_of_gt hk) _⟩,⟨blk_put BK.out 1 _ rfl⟩,⟨HL.out.setCell (Nat.le_of_eq GL.out.symm) _⟩⟩
    case measure=>simp [intOf];omega
   ·rw [Bool.eq_false_iff.2 hr]
    have em : markOf t = ⟨t,[]⟩:=by unfold markOf;rw [if_neg hr]
    obtain ⟨Y,hY⟩ : ∃ Y,Y = (F.f1.take (i + 1)).map markOf:=⟨_,rfl⟩
    have HY:=Mk (show (F.f1.take i).map markOf ++ [(⟨t,[]⟩ : S62)] = Y by rw [hY,HTS.out,em])
    have HZ:=Mk hY
    clear hY
    have hm0:=U.c0 BM
    have hm1:=U.c1 BM
    have hk0:=U.c0 BK
    have hk1:=U.c1 BK
    go_wp2_with (first
    | ((with_reducible refine gate_builtin (b:=.append) (xs:=#[.tmp 43,.tmp 45]) rfl ?_);at_builtin;refine Kd.S_append OFnExactShapeFirst.k62 (w0:=w4) w4.heap.size rfl (.tmp 43) (.tmp 45) 24 62 (.agg #[(.string ⟨#[]⟩),(.slice none 0 0)]) 40 rfl Tryz.underlying24 OFnExactShapeFirst.info62 rfl (by decide) (by omega) u ((F.f1.take i).map markOf) (⟨t,[]⟩ : S62) [.string t,.slice none 0 0] (fun k=>g < k) (fun _=>False) rfl rfl ?aP ?aX ?aF ?aO ?aB ?aS ?aL ?_;(case aP=>exact OFnExactShapeFirst.k62_mkM _ _ _ (⟨t,[]⟩ : S62) (Kd.R_nil _ _ _ _ _));(case aX=>exact fun k hk=>hk.elim);(case aF=>exact fun k hk=>Nat.lt_of_lt_of_le (blk_lt BK.out) hk);(case aO=>exact Kd.S_mono HO.out (fun k hk=>⟨hk.1,fun e=>e⟩));(case aB=>exact HL.out);(case aS=>exact HL.out.size);(case aL=>rw [List.length_map];have:=List.length_take_le i F.f1;omega);intro v1 w9 ho hb hgr hat;replace BK:=Mk (blk_grown BK.out hgr (Kd.S_away HO.out (fun k hk=>Nat.ne_of_gt hk.1)));replace HL:=Mk hb;rw [HY.out] at ho;replace HO:=Mk ho;obtain ⟨Av,cv,rfl⟩:=Kd.S_slice ho;clear ho hb hgr hat;have hk0:=U.c0 BK;have hk1:=U.c1 BK;have hk2:=blk_frozen BK.out 1))
    go_roundw
    case rel=>exact ⟨i + 1,_,by omega,by go_num,⟨by rw [← HZ.out];exact Kd.S_far (p:=⟨g,1,none⟩) HO.out (fun k hk=>Nat.ne_of_gt hk) _⟩,⟨blk_put BK.out 1 _ rfl⟩,⟨HL.out.setCell (Nat.le_of_eq GL.out.symm) _⟩⟩
    case measure=>simp [intOf];omega
  ·obtain rfl : i = F.f1.length:=by omega
   replace HO:=Mk (show Kd.S OFnExactShapeFirst.k62 62 wr w4.heap.size (fun k=>g < k) u (F.f1.map markOf) by have:=HO.out;rwa [List.take_length] at this)
   have BK8:=Mk ((HL.out.block g8 (blk_lt BK8.out)).trans BK8.out)
   have hz0:=U.c0 BK8;have hz1:=U.c1 BK8;have hz2:=U.c2 BK8;have hz3:=U.c3 BK8;have hz4:=U.c4 BK8;have hz5:=U.c5 BK8
   go_wp2_with fail
   go_loopw [52] (fun v52 wr=>∃ (j : Nat) (u2 : Value),j ≤ F.f3.length ∧ v52 = .int .i64 j ∧ Aside0 (Kd.S OFnExactShapeFirst.k62 62 wr w4.heap.size (fun k=>g < k) u2 (F.f1.map markOf ++ List.replicate j ⟨⟨#[]⟩,[]⟩)) ∧ Aside0 (wr.heap[g]? = some (.cells #[.slice none 0 0,u2] 26 (0,0))) ∧ Aside0 (Below w4.heap.size w4 wr)) (fun v52 _=>F.f3.length - (intOf v52).toNat)
   case atStart=>exact ⟨0,u,Nat.zero_le _,rfl,⟨by simpa using HO.out⟩,BK,HL⟩
   case round =>
    clear HO BK HL BK8 hz0 hz1 hz2 hz3 hz4 hz5
    obtain ⟨j,u2,hj,rfl,HO,BK,HL⟩:=hrel
    by_cases hlt2 : j < F.f3.length
    ·obtain ⟨Y,hY⟩ : ∃ Y : List S62,Y = F.f1.map markOf ++ List.replicate (j + 1) ⟨⟨#[]⟩,[]⟩:=⟨_,rfl⟩
     have HY:=Mk (show F.f1.map markOf ++ List.replicate j (⟨⟨#[]⟩,[]⟩ : S62) ++ [(⟨⟨#[]⟩,[]⟩ : S62)] = Y by rw [hY,List.replicate_succ',List.append_assoc])
     have HZ:=Mk hY
     clear hY
     have hk0:=U.c0 BK
     have hk1:=U.c1 BK
     go_wp2_with (first
     | ((with_reducible refine gate_builtin (b:=.append) (xs:=#[.tmp 55,.tmp 57]) rfl ?_);at_builtin;refine Kd.S_append OFnExactShapeFirst.k62 (w0:=w4) w4.heap.size rfl (.tmp 55) (.tmp 57) 24 62 (.agg #[(.string ⟨#[]⟩),(.slice none 0 0)]) 40 rfl Tryz.underlying24 OFnExactShapeFirst.info62 rfl (by decide) (by omega) u2 (F.f1.map markOf ++ List.replicate j ⟨⟨#[]⟩,[]⟩) (⟨⟨#[]⟩,[]⟩ : S62) [.string ⟨#[]⟩,.slice none 0 0] (fun k=>g < k) (fun _=>False) rfl rfl ?aP ?aX ?aF ?aO ?aB ?aS ?aL ?_;(case aP=>exact OFnExactShapeFirst.k62_mkM _ _ _ (⟨⟨#[]⟩,[]⟩ : S62) (Kd.R_nil _ _ _ _ _));(case aX=>exact fun k hk=>hk.elim);(case aF=>exact fun k hk=>Nat.lt_of_lt_of_le (blk_lt BK.out) hk);(case aO=>exact Kd.S_mono HO.out (fun k hk=>⟨hk,fun e=>e⟩));(case aB=>exact HL.out);(case aS=>exact HL.out.size);(case aL=>rw [List.length_append,List.length_map,List.length_replicate];omega);intro vy wy ho hb hgr hat;replace BK:=Mk (blk_grown BK.out hgr (Kd.S_away HO.out (fun k hk=>Nat.ne_of_gt hk)));replace HL:=Mk hb;rw [HY.out] at ho;replace HO:=Mk ho;obtain ⟨Av,cv,rfl⟩:=Kd.S_slice ho;clear ho hb hgr hat;have hk0:=U.c0 BK;have hk1:=U.c1 BK;have hk2:=blk_frozen BK.out 1))
     go_roundw
     case rel=>exact ⟨j + 1,_,by omega,by go_num,⟨by rw [← HZ.out];exact Kd.S_far (p:=⟨g,1,none⟩) HO.out (fun k hk=>Nat.ne_of_gt hk) _⟩,⟨blk_put BK.out 1 _ rfl⟩,⟨HL.out.setCell (Nat.le_of_eq GL.out.symm) _⟩⟩
     case measure=>simp [intOf];omega
    ·obtain rfl : j = F.f3.length:=by omega
     have hm : F.f1.map markOf ++ List.replicate F.f3.length (⟨⟨#[]⟩,[]⟩ : S62) = marksOf F:=by unfold marksOf;rw [List.map_const']
     have HO:=Mk (hm ▸ HO.out)
     obtain ⟨Av,cv,rfl⟩:=Kd.S_slice HO.out
     have hP:=lens_marks F h1 h3
     obtain ⟨P,hP0⟩ : ∃ P,P = marksOf F:=⟨_,rfl⟩
     rw [← hP0] at HO BK hP
     have HP0:=Mk hP0
     clear hm hP0
     have HP:=Mk hP
     have hk0:=U.c0 BK
     have hk1:=U.c1 BK
     have BK6:=Mk ((HL.out.block g6 (blk_lt BK6.out)).trans BK6.out)
     have GS6:=Mk (blk_lt BK6.out)
     clear hP
     go_wp2_with (first
     | ((with_reducible refine gate_callee (f:=27) rfl ?_);refine U.gl (some 62) Tryz.func27 #[.agg #[.slice none 0 0,.slice Av P.length cv]] ?_;refine (copyShape_own none Av 0 cv [] P _ (Kd.C_nil _ _) (Nat.le_refl _) (Kd.S_reads' HO.out).2.2 (Kd.S_reads' HO.out).2.1 ⟨Nat.lt_of_lt_of_le (by decide) (Nat.le_refl 2199023255552),fun x hx=>by cases hx⟩ HP.out).mono ?_;rintro e wz ⟨B0,B1,rfl,hown,hb⟩;refine ⟨_,rfl,?_⟩;have HOW:=Mk hown;have HLS:=Mk HL.out.size;replace BK6:=Mk (blk_below BK6.out hb);replace HB:=Mk (below_step (below_step HB.out (Below.refl _ _)) (Below.refl _ _));replace HL:=Mk (below_step HL.out hb);clear hb hown HO BK;obtain ⟨hq0,hq1,hq2,hq3⟩:=U.d2 BK6))
     refine bodyPost_ret (results_ct rfl _ _ g6 26 #[.slice B0 0 0,.slice B1 P.length P.length] (0,0) _ rfl (U.Kx BK6) Tryz.underlying26 rfl (by kernel_rfl)) rfl ?_
     have hfar : ∀ (W : World) (k : Nat) (u0 u1 : Value),k ≠ g6 → ((W.setCell ⟨g6,0,none⟩ u0).setCell ⟨g6,1,none⟩ u1).heap[k]? = W.heap[k]?:=fun W k u0 u1 h=>by rw [Below.heap_setCell _ _ _ k h,Below.heap_setCell _ _ _ k h]
     have n1:=GS6.out
     have n2:=HB.out.size
     have n3:=HLS.out
     rw [← HP0.out]
     exact ⟨B0,B1,rfl,ShapeOwn.lower (ShapeOwn.step HOW.out (fun k hk _=>hfar _ k _ _ (by omega))) (by omega),(below_then HB.out n2 HL.out |>.setCell GW6.out _).setCell GW6.out _⟩
set_option maxHeartbeats 4000000 in
set_option maxRecDepth 100000 in
theorem shapeFirst_no1 (A0 : Option Addr) (c0 : Nat) (l0 : List S40) (a1 a2 : Int) (q : Nat) (w : World) (hT : OFnExactShapeFirst.Tab w) (hr0 : Kd.C k40 w A0 l0.length l0) (hc0 : l0.length ≤ c0)
  (hs : OFnExactShapeFirst.impl_ShelfShape.f q l0 = some false) :
  Calls Tryz.prog 8 #[.slice A0 l0.length c0,.int .i64 a1,.int .i64 a2] w fun e w'=>e = .returned (.tuple #[.agg #[.slice none 0 0,.slice none 0 0],.bool false]) ∧ Below w.heap.size w w':=by
 have hu_:=Tryz.underlying26
 have hu2:=Tryz.underlying57
 have HR:=Mk hr0
 have HT:=Mk hT
 have HS:=Mk hs
 have HB:=Mk (Below.refl w.heap.size w)
 clear hr0 hT hs
 go_enter Tryz.func8,Tryz.ntmps8
 go_wp2_with (first
  | ((with_reducible refine gate_dst (N:=6) rfl ?_);refine U.bx 6 26 #[.slice none 0 0,.slice none 0 0] ?_;intro g6 hg w1 hbox hb;have BK6:=Mk hbox;have GW6:=U.gw hg HB;replace HB:=U.BB HB hb;clear hg hbox hb;have hq:=U.d2 BK6;obtain ⟨hq0,hq1,hq2,hq3⟩:=hq)
  | ((with_reducible refine gate_callee (f:=24) rfl ?_);refine U.gl (some 15) Tryz.func24 #[.slice A0 l0.length c0] ?_;refine (OFnExactShapeFirst.impl_ShelfShape.calls (hT_:=HT.out.below (U.Bx HB)) q A0 c0 l0 false _ (U.Cx HR HB) hc0 HS.out).mono ?_;rintro e w2 ⟨rfl,hb⟩;refine ⟨_,rfl,?_⟩;clear hq0 hq1 hq2 hq3;replace BK6:=U.KB BK6 hb;replace HB:=U.BB HB hb;clear hb;obtain ⟨hq0,hq1,hq2,hq3⟩:=U.d2 BK6))
 refine bodyPost_ret (results_ct rfl _ _ g6 26 #[.slice none 0 0,.slice none 0 0] (0,0) _ rfl (U.Kx BK6) Tryz.underlying26 rfl (by kernel_rfl)) rfl ?_
 exact ⟨rfl,U.Bx HB⟩
set_option maxHeartbeats 4000000 in
set_option maxRecDepth 100000 in
theorem shapeFirst_no2 (A0 : Option Addr) (c0 : Nat) (l0 : List S40) (a1 a2 : Int) (q : Nat) (w : World) (hT : OFnExactShapeFirst.Tab w) (hr0 : Kd.C k40 w A0 l0.length l0) (hc0 : l0.length ≤ c0)
  (F : S57) (hs : OFnExactShapeFirst.impl_ShelfShape.f q l0 = some true) (hf : OFnExactShapeFirst.impl_ShelfFunc.f l0 a1 a2 = some (F.f0,F.f1,F.f2,F.f3,F.f4,F.f5,false)) :
  Calls Tryz.prog 8 #[.slice A0 l0.length c0,.int .i64 a1,.int .i64 a2] w fun e w'=>e = .returned (.tuple #[.agg #[.slice none 0 0,.slice none 0 0],.bool false]) ∧ Below w.heap.size w w':=by
 have hu_:=Tryz.underlying26
 have hu2:=Tryz.underlying57
 have HR:=Mk hr0
 have HT:=Mk hT
 have HS:=Mk hs
 have HF:=Mk hf
 clear hf
 have HB:=Mk (Below.refl w.heap.size w)
 clear hr0 hT hs
 go_enter Tryz.func8,Tryz.ntmps8
 go_wp2_with (first
  | ((with_reducible refine gate_dst (N:=6) rfl ?_);refine U.bx 6 26 #[.slice none 0 0,.slice none 0 0] ?_;intro g6 hg w1 hbox hb;have BK6:=Mk hbox;have GW6:=U.gw hg HB;replace HB:=U.BB HB hb;clear hg hbox hb;have hq:=U.d2 BK6;obtain ⟨hq0,hq1,hq2,hq3⟩:=hq)
  | ((with_reducible refine gate_callee (f:=24) rfl ?_);refine U.gl (some 15) Tryz.func24 #[.slice A0 l0.length c0] ?_;refine (OFnExactShapeFirst.impl_ShelfShape.calls (hT_:=HT.out.below (U.Bx HB)) q A0 c0 l0 true _ (U.Cx HR HB) hc0 HS.out).mono ?_;rintro e w2 ⟨rfl,hb⟩;refine ⟨_,rfl,?_⟩;clear hq0 hq1 hq2 hq3;replace BK6:=U.KB BK6 hb;replace HB:=U.BB HB hb;clear hb;obtain ⟨hq0,hq1,hq2,hq3⟩:=U.d2 BK6)
  | ((with_reducible refine gate_callee (f:=25) rfl ?_);refine U.gl (some 22) Tryz.func25 #[.slice A0 l0.length c0,.int .i64 a1,.int .i64 a2] ?_;refine (OFnExactShapeFirst.impl_ShelfFunc.calls A0 c0 l0 a1 a2 F.f0 F.f1 F.f2 F.f3 F.f4 F.f5 false _ (U.Cx HR HB) hc0 HF.out).mono ?_;rintro e w3 ⟨v1,v2,v3,v4,v5,rfl,ho1,ho2,ho3,ho4,ho5,hb⟩;refine ⟨_,rfl,?_⟩;obtain ⟨A1,c1,e1⟩:=Kd.V_slice ho1;obtain ⟨A2,c2,e2⟩:=Kd.V_slice ho2;obtain ⟨A3,c3,e3⟩:=Kd.V_slice ho3;obtain ⟨A4,c4,e4⟩:=Kd.V_slice ho4;obtain ⟨A5,c5,e5⟩:=Kd.V_slice ho5;subst e1;subst e2;subst e3;subst e4;subst e5;clear hq0 hq1 hq2 hq3;replace BK6:=U.KB BK6 hb;replace HB:=U.BB HB hb;clear hb ho1 ho2 ho3 ho4 ho5;obtain ⟨hq0,hq1,hq2,hq3⟩:=U.d2 BK6;have hlt6 : g6 < w3.heap.size:=blk_lt BK6.out))
 refine bodyPost_ret (results_ct rfl _ _ g6 26 #[.slice none 0 0,.slice none 0 0] (0,0) _ rfl (U.Kx BK6) Tryz.underlying26 rfl (by kernel_rfl)) rfl ?_
 exact ⟨rfl,U.Bx HB⟩
theorem ShapeOwn.zero (w : World) (base : Nat) : ShapeOwn w base [] [] [.slice none 0 0,.slice none 0 0]:=ShapeOwn.mk (A0:=none) (A1:=none) (c0:=0) (c1:=0) (b0:=base) (b1:=base) (Nat.le_refl _) (Nat.le_refl _) (Kd.S_nil _ _ _ _ _) (Kd.S_nil _ _ _ _ _)
def SF (l0 : List S40) (a1 a2 : Int) (P : List S62) (b : Bool) : Prop:=∃ (s : Bool) (F : S57) (b' : Bool),(∃ k,OFnExactShapeFirst.impl_ShelfShape.f k l0 = some s) ∧ OFnExactShapeFirst.impl_ShelfFunc.f l0 a1 a2 = some (F.f0,F.f1,F.f2,F.f3,F.f4,F.f5,b') ∧ F.f1.length ≤ 1048576 ∧ F.f3.length ≤ 1048576 ∧ b = (s && b') ∧ (b = true → P = marksOf F) ∧ (b = false → P = [])
theorem shapeFirst_any (A0 : Option Addr) (c0 : Nat) (l0 : List S40) (a1 a2 : Int) (P : List S62) (b : Bool) (w : World) (hT : OFnExactShapeFirst.Tab w) (hr0 : Kd.C k40 w A0 l0.length l0) (hc0 : l0.length ≤ c0) (h : SF l0 a1 a2 P b) :
  Calls Tryz.prog 8 #[.slice A0 l0.length c0,.int .i64 a1,.int .i64 a2] w fun e w'=>∃ B0 B1,e = .returned (.tuple #[.agg #[.slice B0 0 0,.slice B1 P.length P.length],.bool b]) ∧
   ShapeOwn w' w.heap.size [] P [.slice B0 0 0,.slice B1 P.length P.length] ∧ Below w.heap.size w w':=by
 obtain ⟨s,F,b',⟨q,h1⟩,h2,h3,h4,h5,h6,h7⟩:=h
 cases s with
 | false =>
  obtain rfl : b = false:=h5
  rw [h7 rfl]
  refine (shapeFirst_no1 A0 c0 l0 a1 a2 q w hT hr0 hc0 h1).mono ?_
  rintro e w' ⟨rfl,hb⟩
  exact ⟨none,none,rfl,ShapeOwn.zero _ _,hb⟩
 | true =>
  cases b' with
  | false =>
   obtain rfl : b = false:=h5
   rw [h7 rfl]
   refine (shapeFirst_no2 A0 c0 l0 a1 a2 q w hT hr0 hc0 F h1 h2).mono ?_
   rintro e w' ⟨rfl,hb⟩
   exact ⟨none,none,rfl,ShapeOwn.zero _ _,hb⟩
  | true =>
   obtain rfl : b = true:=h5
   rw [h6 rfl]
   exact shapeFirst_yes A0 c0 l0 a1 a2 F q w hT hr0 hc0 h1 h2 h3 h4
abbrev S107:=OFnExactShapeFirst.S107
abbrev k107:=OFnExactShapeFirst.k107
theorem nd_append {s r : List Slot} {P : Nat → Prop} (h1 : ∀ q ∈ s,P q.1) (h2 : ∀ q ∈ r,¬ P q.1) (n1 : (s.map key).Nodup) (n2 : (r.map key).Nodup) : ((s ++ r).map key).Nodup:=by
 rw [List.map_append,List.nodup_append]
 refine ⟨n1,n2,fun a ha b hb he=>?_⟩
 obtain ⟨q,hq,rfl⟩:=List.mem_map.1 ha
 obtain ⟨q',hq',rfl⟩:=List.mem_map.1 hb
 exact h2 q' hq' ((Prod.mk.inj he).1 ▸ h1 q hq)
theorem rows_last {α : Type} {d : Kd α} {t : Ty} {cnt : α → Nat} (hF : Fits True d t cnt) {e base : Nat} {ok : Nat → Prop} {w : World} {xs : List α} {cs : List Value} (h : (sl e d).M w base ok xs cs) :
  ∃ v s,cs = [v] ∧ RowOf (Cel w t) t.sz v s ∧ (∀ q ∈ s,ok q.1 ∧ base ≤ q.1) ∧ (s.map key).Nodup ∧ s.length = (xs.map cnt).sum:=by
 obtain ⟨v,c,rfl,hl,hS⟩:=h
 obtain ⟨s,h1,h2,h3,h4⟩:=S_slots hF hS c hl
 exact ⟨_,s,rfl,h1,h2,h3,h4⟩
theorem rows_step {α β : Type} {d : Kd α} {b : Kd β} {t : Ty} {cnt : α → Nat} (hF : Fits True d t cnt) {e base : Nat} {ok : Nat → Prop} {w : World} {x : List α × β} {cs : List Value} (h : (pr (sl e d) b).M w base ok x cs) :
  ∃ (v : Value) (s : List Slot) (cs' : List Value) (p : Nat → Prop),cs = v :: cs' ∧ RowOf (Cel w t) t.sz v s ∧ (∀ q ∈ s,(ok q.1 ∧ p q.1) ∧ base ≤ q.1) ∧ (s.map key).Nodup ∧ s.length = (x.1.map cnt).sum ∧ b.M w base (fun k=>ok k ∧ ¬ p k) x.2 cs':=by
 obtain ⟨c0,c1,rfl,p,h0,h1⟩:=h
 obtain ⟨v,s,rfl,h2,h3,h4,h5⟩:=rows_last hF h0
 exact ⟨v,s,c1,p,rfl,h2,h3,h4,h5,h1⟩
def cntIns (x : OFnExactShapeFirst.S107) : Nat:=1 + (1 + 1)
theorem fits_kIns (D : Prop) : Fits D k107 tyIns cntIns:=by
 have h : Fits D k107 tyIns cntIns:=⟨rfl,fun w base ok x cs g o hM hc=>by
  obtain rfl:=OFnExactShapeFirst.k107_openM hM
  obtain ⟨a1,a2⟩:=hc 0 _ rfl
  obtain ⟨b1,b2⟩:=hc 1 _ rfl
  obtain ⟨d1,d2⟩:=hc 2 _ rfl
  refine ⟨[(g,o,true),(g,o + 1,false),(g,o + 1 + 1,false)],⟨⟨_,a1⟩,a2,_,rfl,⟨_,b1⟩,b2,_,rfl,⟨_,d1⟩,d2,_,rfl,rfl⟩,fun p hp=>.inl ?_,fun _ _=>?_,rfl⟩
  ·have hs : tyIns.sz = 3:=rfl
   rw [hs]
   simp only [List.mem_cons,List.not_mem_nil,or_false] at hp
   rcases hp with rfl | rfl | rfl<;>exact ⟨rfl,by dsimp only;omega,by dsimp only;omega⟩
  ·simp [key]<;>omega⟩
 exact h
abbrev S97:=OFnExactShapeFirst.S97
abbrev k97:=OFnExactShapeFirst.k97
def cntRec (x : S97) : Nat:=1 + (x.f1.map fun _=>1).sum
def cntFunc (x : S57) : Nat:=1 + ((x.f1.map fun _=>1).sum + ((x.f2.map fun _=>1).sum + ((x.f3.map fun _=>1).sum + ((x.f4.map fun _=>1).sum + (x.f5.map cntIns).sum))))
def cntMod (x : S40) : Nat:=(x.f0.map cntRec).sum + ((x.f1.map cntFunc).sum + (x.f2.map fun _=>1).sum)
theorem fits_kRec : Fits False k97 tyRecord cntRec:=(fits_int_pair (fits_slice fits_str)).iso _
theorem fits_kFunc : Fits False OFnExactShapeFirst.k57 tyFunc cntFunc:=(fits_int_pair (fits_slice_pair fits_str (fits_slice_pair fits_str (fits_slice_pair fits_str (fits_slice_pair fits_int (fits_slice (fits_kIns False))))))).iso _
theorem fits_kMod : Fits False k40 tyModule cntMod:=(fits_slice_pair fits_kRec (fits_slice_pair fits_kFunc (fits_slice fits_int))).iso _
def cntMark (x : S62) : Nat:=1 + (x.f1.map fun _=>1).sum
theorem fits_kMarkD : Fits True kMarkD tyMark cntMark:=(fits_str_pr (fits_row fits_int)).iso _
theorem ShapeOwn.slots {w : World} {base : Nat} {S P : List S62} {v1 v2 : Value} (h : ShapeOwn w base S P [v1,v2]) :
  ∃ s1 s2,RowOf (Cel w tyMark) 2 v1 s1 ∧ RowOf (Cel w tyMark) 2 v2 s2 ∧ (∀ q ∈ s1 ++ s2,base ≤ q.1) ∧ ((s1 ++ s2).map key).Nodup ∧ (s1 ++ s2).length = (S.map cntMark).sum + (P.map cntMark).sum:=by
 obtain ⟨w1,s1,r1,p1,e1,a1,b1,n1,l1,h⟩:=rows_step fits_kMarkD h
 obtain ⟨w2,s2,e2,a2,b2,n2,l2⟩:=rows_last fits_kMarkD h
 subst e2
 injection e1 with q1 e1
 injection e1 with q2 e1
 subst q1 q2
 refine ⟨s1,s2,a1,a2,fun q hq=>?_,nd_append (P:=p1) (fun q hq=>(b1 q hq).1.2) (fun q hq=>(b2 q hq).1.2) n1 n2,by simp only [List.length_append,l1,l2]⟩
 rcases List.mem_append.1 hq with hq | hq
 ·exact (b1 q hq).2
 ·exact (b2 q hq).2
def ShapeC (w : World) (S P : List S62) (B1 B2 : Option Addr) : Prop:=Kd.C k62 w B1 S.length S ∧ Kd.C k62 w B2 P.length P
theorem ShapeOwn.reads {w : World} {base : Nat} {S P : List S62} {B1 B2 : Option Addr} (h : ShapeOwn w base S P [.slice B1 S.length S.length,.slice B2 P.length P.length]) : ShapeC w S P B1 B2:=by
 obtain ⟨c1,r1,e1,⟨A1,d1,rfl,_,h1⟩,⟨A2,d2,rfl,_,h2⟩⟩:=kRowsS.K_of_M h
 injection e1 with q1 e1
 injection e1 with q2 e1
 injection q1 with q1 _ _
 injection q2 with q2 _ _
 subst q1 q2
 exact ⟨h1,h2⟩
theorem ShapeC.below {w w1 : World} {S P : List S62} {B1 B2 : Option Addr} (h : ShapeC w S P B1 B2) (hb : Below w.heap.size w w1) : ShapeC w1 S P B1 B2:=⟨Kd.C_below h.1 hb,Kd.C_below h.2 hb⟩
theorem specShape_any (A0 : Option Addr) (c0 : Nat) (l0 : List S40) (a1 a2 : Int) (P : List S62) (b : Bool) (w : World) (hr0 : Kd.C k40 w A0 l0.length l0) (hc0 : l0.length ≤ c0) (h : ∃ k,OFnExactShapeFirst.spec_ShapeFirst.f k l0 a1 a2 = some ([],P,b)) :
  Calls Tryz.prog 6 #[.slice A0 l0.length c0,.int .i64 a1,.int .i64 a2] w fun e w'=>∃ D1 D2 e1 e2,e = .returned (.tuple #[.agg #[.slice D1 0 e1,.slice D2 P.length e2],.bool b]) ∧ ShapeC w' [] P D1 D2 ∧ P.length ≤ e2 ∧ Below w.heap.size w w':=by
 obtain ⟨k,hk⟩:=h
 refine (OFnExactShapeFirst.spec_ShapeFirst.calls k A0 c0 l0 a1 a2 _ _ _ w hr0 hc0 hk).mono ?_
 rintro e w' ⟨v1,v2,rfl,q1,q2,hb⟩
 obtain ⟨D1,e1,rfl,_,h1⟩:=Kd.S_reads q1
 obtain ⟨D2,e2,rfl,l2,h2⟩:=Kd.S_reads q2
 exact ⟨D1,D2,e1,e2,rfl,⟨h1,h2⟩,l2,hb⟩
set_option maxRecDepth 100000 in
theorem eqS_any {P : List S62} (hk : ∃ k,OFnExactShapeFirst.laws_eqShape.f k [] P [] P = some true) (B1 B2 D1 D2 : Option Addr) (e1 e2 : Nat) (W : World) (h1 : ShapeC W [] P B1 B2) (h2 : ShapeC W [] P D1 D2) (h3 : P.length ≤ e2) :
  Calls Tryz.prog 9 #[.agg #[.slice B1 0 0,.slice B2 P.length P.length],.agg #[.slice D1 0 e1,.slice D2 P.length e2]] W fun e w'=>e = .returned (.bool true) ∧ Below W.heap.size W w':=by
 obtain ⟨k,hk⟩:=hk
 exact OFnExactShapeFirst.laws_eqShape.calls k B1 0 [] B2 P.length P D1 e1 [] D2 e2 P true W h1.1 (Nat.zero_le _) h1.2 (Nat.le_refl _) h2.1 (Nat.zero_le _) h2.2 h3 hk
structure ShapeFacts (l0 : List OFnExactShapeFirst.S50) (M : List S40) (a1 a2 : Int) (P : List S62) (b : Bool) : Prop where
 to_ : ∃ k,OFnExactShapeFirst.laws_toModuleS.f k l0 = some M
 eqM : ∃ k,OFnExactShapeFirst.laws_eqModuleS.f k M M = some true
 spec : ∃ k,OFnExactShapeFirst.spec_ShapeFirst.f k M a1 a2 = some ([],P,b)
 eqS : ∃ k,OFnExactShapeFirst.laws_eqShape.f k [] P [] P = some true
 walk : SF M a1 a2 P b
 cnt : (M.map cntMod).sum ≤ 8999998
 cntP : (P.map cntMark).sum ≤ 8999998
set_option maxHeartbeats 4000000 in
set_option maxRecDepth 100000 in
theorem law (A0 : Option Addr) (c0 : Nat) (l0 : List OFnExactShapeFirst.S50) (a1 a2 : Int) (w : World) (hT : OFnExactShapeFirst.Tab w) (hr0 : Kd.C OFnExactShapeFirst.k50 w A0 l0.length l0) (hc0 : l0.length ≤ c0) (L : Int) (hL : ∃ k,OFnExactShapeFirst.laws_szModuleS.f k l0 1048576 = some L) (hM : 0 ≤ L → ∃ M P b,ShapeFacts l0 M a1 a2 P b) :
  Calls Tryz.prog 3 #[.slice A0 l0.length c0,.int .i64 a1,.int .i64 a2] w fun e w'=>e = .returned (.bool true) ∧ Below w.heap.size w w':=by
 obtain ⟨k1,h1⟩:=hL
 have hu_:=Tryz.underlying26
 have H1:=Mk h1
 have HR:=Mk hr0
 have HB:=Mk (Below.refl w.heap.size w)
 have HT0:=Mk hT
 clear h1 hr0 hT
 by_cases hneg : L < 0
 ·go_enter Tryz.func3,Tryz.ntmps3
  go_wp2_with (go_at_call 5;refine (OFnExactShapeFirst.laws_szModuleS.calls k1 A0 c0 l0 1048576 L _ (Kd.C_below HR.out HB.out) hc0 H1.out).mono ?_;rintro e w1 ⟨rfl,hb⟩;replace HB:=Mk (below_step HB.out hb);clear hb)
  go_ret
  exact ⟨rfl,HB.out⟩
 ·obtain ⟨M,P,b,hM⟩:=hM (by omega)
  have HM:=Mk hM
  clear hM
  go_enter Tryz.func3,Tryz.ntmps3
  go_wp2_with fail
  refine (OFnExactShapeFirst.laws_szModuleS.calls k1 A0 c0 l0 1048576 L _ (Kd.C_below HR.out HB.out) hc0 H1.out).mono ?_
  rintro e w1 ⟨rfl,hb⟩
  replace HB:=Mk (below_step HB.out hb)
  clear hb
  go_wp2_with fail
  refine (OFnExactShapeFirst.laws_toModuleS.calls HM.out.to_.choose A0 c0 l0 M _ (Kd.C_below HR.out HB.out) hc0 HM.out.to_.choose_spec).mono ?_
  rintro e w2 ⟨v_w2,rfl,ho,hb⟩
  replace HB:=Mk (below_step HB.out hb)
  obtain ⟨A2,c2,rfl,hc2,hC2⟩:=Kd.R_reads ho
  clear ho hb
  go_wp2_with fail
  refine (specShape_any A2 c2 M a1 a2 P b _ hC2 hc2 HM.out.spec).mono ?_
  rintro e w3 ⟨D1,D2,e1,e2,rfl,hq,hle,hb⟩
  replace HB:=Mk (below_step HB.out hb)
  have HW:=Mk hq
  have HLE:=Mk hle
  clear hb hq hle hC2
  go_wp2_with fail
  obtain ⟨g8,hg8⟩ : ∃ g,g = w3.heap.size:=⟨_,rfl⟩
  obtain ⟨y3,hy3⟩ : ∃ W,W = w3.alloc (.cells #[.slice D1 0 e1,.slice D2 P.length e2] 26):=⟨_,rfl⟩
  rw [← hy3]
  try rw [← hg8]
  have BK8:=Mk (show y3.heap[g8]? = some (.cells #[.slice D1 0 e1,.slice D2 P.length e2] 26 (0,0)) by rw [hy3,hg8];exact heap_alloc_new w3 _)
  have hb3 : Below w3.heap.size w3 y3:=by rw [hy3];exact below_alloc (Below.refl _ _) _
  replace HW:=Mk (HW.out.below hb3)
  replace HB:=Mk (below_step HB.out hb3)
  have HBw:=Mk (Below.refl y3.heap.size y3)
  clear hy3 hg8 hb3
  refine (OFnExactShapeFirst.laws_toModuleS.calls HM.out.to_.choose A0 c0 l0 M _ (Kd.C_below HR.out HB.out) hc0 HM.out.to_.choose_spec).mono ?_
  rintro e w4 ⟨v4,rfl,ho,hb⟩
  have HL3:=Mk (show w.heap.size ≤ y3.heap.size from HB.out.size)
  have GL8:=Mk (blk_lt BK8.out)
  replace HB:=Mk (below_step HB.out hb)
  replace HBw:=Mk (below_step HBw.out hb)
  obtain ⟨A4,c4,rfl,hc4,hC4⟩:=Kd.R_reads ho
  obtain ⟨s4,hs4,hin4,hct4⟩:=R_slots fits_kMod ho c4 hc4
  have HS4:=Mk (show RowOf (Cel w4 tyModule) 3 (.slice A4 M.length c4) s4 from hs4)
  have HI4:=Mk (show ∀ p ∈ s4,y3.heap.size ≤ p.1 ∧ p.1 < w4.heap.size from fun p hp=>⟨(hin4 p hp).2,RowOf.mem hs4 p hp⟩)
  have HT4:=Mk (show 1 + s4.length ≤ 9000000 by rw [hct4];have:=HM.out.cnt;omega)
  have HC4:=Mk hC4
  have HB4:=Mk (Below.refl w4.heap.size w4)
  clear ho hb hs4 hin4 hct4 hC4
  go_wp2_with fail
  refine (shapeFirst_any A4 c4 M a1 a2 P b _ (HT0.out.below HB.out) (Kd.C_below HC4.out HB4.out) hc4 HM.out.walk).mono ?_
  rintro e w5 ⟨B1,B2,rfl,hs,hb⟩
  have HL4:=Mk (show y3.heap.size ≤ w4.heap.size from HBw.out.size)
  replace HB:=Mk (below_step HB.out hb)
  replace HBw:=Mk (below_step HBw.out hb)
  replace HB4:=Mk (below_step HB4.out hb)
  have HG:=Mk hs
  have HL5:=Mk hb.size
  clear hs hb
  obtain ⟨t1,t2,r1,r2,hin,hnd,hct⟩:=HG.out.slots
  have HR1:=Mk r1
  have HR2:=Mk r2
  have HI5:=Mk (show ∀ q ∈ t1 ++ t2,w4.heap.size ≤ q.1 ∧ q.1 < w5.heap.size from fun q hq=>by
   refine ⟨hin q hq,?_⟩
   rcases List.mem_append.1 hq with hq | hq
   ·exact RowOf.mem r1 q hq
   ·exact RowOf.mem r2 q hq)
  have HD5:=Mk (show ((t1 ++ t2).map key).Nodup from hnd)
  have HT5:=Mk (show 1 + (t1 ++ t2).length ≤ 9000000 by rw [hct];have:=HM.out.cntP;simp only [List.map_nil,List.sum_nil];omega)
  have HTP:=Mk (TP.refl w5)
  clear r1 r2 hin hnd hct
  replace BK8:=Mk ((HBw.out.block g8 GL8.out).trans BK8.out)
  have hx0:=U.c0 BK8
  have hx1:=U.c1 BK8
  have hlt8 : g8 < w5.heap.size:=blk_lt BK8.out
  go_wp2_with fail
  clear hx0 hx1
  obtain ⟨g11,hg11⟩ : ∃ g,g = w5.heap.size:=⟨_,rfl⟩
  obtain ⟨y5,hy5⟩ : ∃ W,W = w5.alloc (.cells #[.slice B1 0 0,.slice B2 P.length P.length] 26):=⟨_,rfl⟩
  rw [← hy5]
  try rw [← hg11]
  have BK11:=Mk (show y5.heap[g11]? = some (.cells #[.slice B1 0 0,.slice B2 P.length P.length] 26 (0,0)) by rw [hy5,hg11];exact heap_alloc_new w5 _)
  have hb : Below w5.heap.size w5 y5:=by rw [hy5];exact below_alloc (Below.refl _ _) _
  have GE11:=Mk (show w5.heap.size ≤ g11 from Nat.le_of_eq hg11.symm)
  clear hg11 hy5
  replace HB:=Mk (below_step HB.out hb)
  replace HBw:=Mk (below_step HBw.out hb)
  replace HB4:=Mk (below_step HB4.out hb)
  replace BK8:=Mk (blk_below BK8.out hb)
  replace HG:=Mk (HG.out.step (fun k _ hlt=>hb.block k hlt))
  replace HTP:=Mk (HTP.out.trans (TP.of_below hb))
  clear hb
  refine (eqS_any HM.out.eqS B1 B2 D1 D2 e1 e2 _ HG.out.reads (HW.out.below HBw.out) HLE.out).mono ?_
  rintro e w6 ⟨rfl,hb⟩
  replace HB:=Mk (below_step HB.out hb)
  replace HBw:=Mk (below_step HBw.out hb)
  replace HB4:=Mk (below_step HB4.out hb)
  replace BK8:=Mk (blk_below BK8.out hb)
  replace BK11:=Mk (blk_below BK11.out hb)
  replace HG:=Mk (HG.out.step (fun k _ hlt=>hb.block k hlt))
  replace HTP:=Mk (HTP.out.trans (TP.of_below hb))
  clear hb
  go_wp2_with fail
  refine (OFnExactShapeFirst.laws_toModuleS.calls HM.out.to_.choose A0 c0 l0 M _ (Kd.C_below HR.out HB.out) hc0 HM.out.to_.choose_spec).mono ?_
  rintro e w7 ⟨v,rfl,ho,hb⟩
  replace HB:=Mk (below_step HB.out hb)
  replace HBw:=Mk (below_step HBw.out hb)
  replace HB4:=Mk (below_step HB4.out hb)
  replace BK8:=Mk (blk_below BK8.out hb)
  replace BK11:=Mk (blk_below BK11.out hb)
  replace HG:=Mk (HG.out.step (fun k _ hlt=>hb.block k hlt))
  replace HTP:=Mk (HTP.out.trans (TP.of_below hb))
  obtain ⟨A7,c7,rfl,hc7,hC7⟩:=Kd.R_reads ho
  clear ho hb
  go_wp2_with fail
  refine (OFnExactShapeFirst.laws_eqModuleS.calls HM.out.eqM.choose A4 c4 M A7 c7 M true _ (Kd.C_below HC4.out HB4.out) hc4 hC7 hc7 HM.out.eqM.choose_spec).mono ?_
  rintro e w8 ⟨rfl,hb⟩
  replace HB:=Mk (below_step HB.out hb)
  replace HBw:=Mk (below_step HBw.out hb)
  replace HB4:=Mk (below_step HB4.out hb)
  replace BK8:=Mk (blk_below BK8.out hb)
  replace BK11:=Mk (blk_below BK11.out hb)
  replace HG:=Mk (HG.out.step (fun k _ hlt=>hb.block k hlt))
  replace HTP:=Mk (HTP.out.trans (TP.of_below hb))
  clear hb hC7
  go_wp2_with fail
  refine (markModuleS_any _ s4 1 rfl _ (HS4.out.tp (TP.of_below HB4.out)) (Nat.le_refl _) HT4.out).mono ?_
  rintro e w9 ⟨rfl,hm⟩
  replace HB:=Mk (hm.below_of (fun p hp=>Nat.le_trans HL3.out (HI4.out p hp).1) HB.out HB.out.size)
  replace HBw:=Mk (hm.below_of (fun p hp=>(HI4.out p hp).1) HBw.out HBw.out.size)
  replace HG:=Mk (HG.out.step (fun k hk hlt=>hm.far k hlt (fun p hp he=>by have:=(HI4.out p hp).2;omega)))
  replace BK8:=Mk ((hm.far g8 (blk_lt BK8.out) (fun p hp he=>by have h1:=(HI4.out p hp).1;have h2:=GL8.out;omega)).trans BK8.out)
  replace BK11:=Mk ((hm.far g11 (blk_lt BK11.out) (fun p hp he=>by have h1:=(HI4.out p hp).2;have h2:=GE11.out;have h3:=HL5.out;omega)).trans BK11.out)
  replace HTP:=Mk (HTP.out.trans hm.tp)
  obtain ⟨N4,hN4⟩ : ∃ N,N = 1 + s4.length:=⟨_,rfl⟩
  rw [← hN4]
  clear hm hN4 HB4 HC4 HS4 HI4 HT4
  have hN4 : ¬ ((N4 : Int) < 0):=by omega
  have hx0:=U.c0 BK8
  have hx1:=U.c1 BK8
  have hz0:=U.c0 BK11
  have hz1:=U.c1 BK11
  go_wp2_with fail
  clear hx0 hx1
  clear hz0 hz1
  refine (eqS_any HM.out.eqS B1 B2 D1 D2 e1 e2 _ HG.out.reads (HW.out.below HBw.out) HLE.out).mono ?_
  rintro e w10 ⟨rfl,hb⟩
  replace HB:=Mk (below_step HB.out hb)
  replace HBw:=Mk (below_step HBw.out hb)
  replace BK8:=Mk (blk_below BK8.out hb)
  replace BK11:=Mk (blk_below BK11.out hb)
  replace HTP:=Mk (HTP.out.trans (TP.of_below hb))
  clear hb HG
  have hz0:=U.c0 BK11
  have hz1:=U.c1 BK11
  go_wp2_with fail
  clear hz0 hz1
  refine (markShape_any _ t1 _ t2 1 rfl _ (HR1.out.tp HTP.out) (HR2.out.tp HTP.out) (Nat.le_refl _) HT5.out).mono ?_
  rintro e w11 ⟨rfl,hm⟩
  replace HB:=Mk (hm.below_of (fun p hp=>Nat.le_trans HL3.out (Nat.le_trans HL4.out (HI5.out p hp).1)) HB.out HB.out.size)
  replace HBw:=Mk (hm.below_of (fun p hp=>Nat.le_trans HL4.out (HI5.out p hp).1) HBw.out HBw.out.size)
  replace BK8:=Mk ((hm.far g8 (blk_lt BK8.out) (fun p hp he=>by have h1:=(HI5.out p hp).1;have h2:=GL8.out;have h3:=HL4.out;omega)).trans BK8.out)
  replace BK11:=Mk ((hm.far g11 (blk_lt BK11.out) (fun p hp he=>by have h1:=(HI5.out p hp).2;have h2:=GE11.out;omega)).trans BK11.out)
  replace HTP:=Mk (HTP.out.trans hm.tp)
  have HH:=Mk (hm.held HD5.out)
  have HB5:=Mk (Below.refl w11.heap.size w11)
  obtain ⟨N5,hN5⟩ : ∃ N,N = 1 + (t1 ++ t2).length:=⟨_,rfl⟩
  have HN5:=Mk hN5
  rw [← hN5]
  clear hm hN5 HD5 HI5
  have hz0:=U.c0 BK11
  have hz1:=U.c1 BK11
  go_wp2_with fail
  clear hz0 hz1
  refine (heldShape_any _ t1 _ t2 1 rfl _ (HR1.out.tp HTP.out) (HR2.out.tp HTP.out) (Nat.le_refl _) HT5.out (HH.out.below HB5.out)).mono ?_
  rintro e w12 ⟨rfl,hb⟩
  rw [← HN5.out]
  replace HB:=Mk (below_step HB.out hb)
  replace HBw:=Mk (below_step HBw.out hb)
  replace HB5:=Mk (below_step HB5.out hb)
  replace BK8:=Mk (blk_below BK8.out hb)
  replace BK11:=Mk (blk_below BK11.out hb)
  replace HTP:=Mk (HTP.out.trans (TP.of_below hb))
  clear hb
  have hN5 : ¬ ((N5 : Int) < 0):=by omega
  go_wp2_with fail
  refine (OFnExactShapeFirst.laws_toModuleS.calls HM.out.to_.choose A0 c0 l0 M _ (Kd.C_below HR.out HB.out) hc0 HM.out.to_.choose_spec).mono ?_
  rintro e w13 ⟨v,rfl,ho,hb⟩
  replace HB:=Mk (below_step HB.out hb)
  replace HBw:=Mk (below_step HBw.out hb)
  replace HB5:=Mk (below_step HB5.out hb)
  replace BK8:=Mk (blk_below BK8.out hb)
  replace BK11:=Mk (blk_below BK11.out hb)
  replace HTP:=Mk (HTP.out.trans (TP.of_below hb))
  obtain ⟨A13,c13,rfl,hc13,hC13⟩:=Kd.R_reads ho
  clear ho hb
  go_wp2_with fail
  refine (shapeFirst_any A13 c13 M a1 a2 P b _ (HT0.out.below HB.out) hC13 hc13 HM.out.walk).mono ?_
  rintro e w14 ⟨G1,G2,rfl,hs,hb⟩
  have HG:=Mk hs
  replace HB:=Mk (below_step HB.out hb)
  replace HBw:=Mk (below_step HBw.out hb)
  replace HB5:=Mk (below_step HB5.out hb)
  replace BK8:=Mk (blk_below BK8.out hb)
  replace BK11:=Mk (blk_below BK11.out hb)
  replace HTP:=Mk (HTP.out.trans (TP.of_below hb))
  clear hs hb hC13
  have hx0:=U.c0 BK8
  have hx1:=U.c1 BK8
  have hlt8 : g8 < w14.heap.size:=blk_lt BK8.out
  go_wp2_with fail
  clear hx0 hx1
  obtain ⟨g16,hg16⟩ : ∃ g,g = w14.heap.size:=⟨_,rfl⟩
  obtain ⟨y14,hy14⟩ : ∃ W,W = w14.alloc (.cells #[.slice G1 0 0,.slice G2 P.length P.length] 26):=⟨_,rfl⟩
  rw [← hy14]
  try rw [← hg16]
  have BK16:=Mk (show y14.heap[g16]? = some (.cells #[.slice G1 0 0,.slice G2 P.length P.length] 26 (0,0)) by rw [hy14,hg16];exact heap_alloc_new w14 _)
  have hb : Below w14.heap.size w14 y14:=by rw [hy14];exact below_alloc (Below.refl _ _) _
  clear hg16 hy14 BK16
  replace HB:=Mk (below_step HB.out hb)
  replace HBw:=Mk (below_step HBw.out hb)
  replace HB5:=Mk (below_step HB5.out hb)
  replace BK8:=Mk (blk_below BK8.out hb)
  replace BK11:=Mk (blk_below BK11.out hb)
  replace HG:=Mk (HG.out.step (fun k _ hlt=>hb.block k hlt))
  replace HTP:=Mk (HTP.out.trans (TP.of_below hb))
  clear hb
  refine (eqS_any HM.out.eqS G1 G2 D1 D2 e1 e2 _ HG.out.reads (HW.out.below HBw.out) HLE.out).mono ?_
  rintro e w15 ⟨rfl,hb⟩
  replace HB:=Mk (below_step HB.out hb)
  replace HB5:=Mk (below_step HB5.out hb)
  replace BK11:=Mk (blk_below BK11.out hb)
  replace HTP:=Mk (HTP.out.trans (TP.of_below hb))
  clear hb HG HBw BK8
  have hz0:=U.c0 BK11
  have hz1:=U.c1 BK11
  go_wp2_with fail
  clear hz0 hz1
  refine (heldShape_any _ t1 _ t2 1 rfl _ (HR1.out.tp HTP.out) (HR2.out.tp HTP.out) (Nat.le_refl _) HT5.out (HH.out.below HB5.out)).mono ?_
  rintro e w16 ⟨rfl,hb⟩
  rw [← HN5.out]
  replace HB:=Mk (below_step HB.out hb)
  clear hb
  go_wp2
  go_ret
  exact ⟨rfl,HB.out⟩
theorem marks_count (F : S57) : ((marksOf F).map cntMark).sum ≤ 2 * (marksOf F).length:=by
 have h : ∀ x ∈ marksOf F,cntMark x ≤ 2:=fun x hx=>by
  unfold marksOf at hx
  unfold cntMark
  rcases List.mem_append.1 hx with hx | hx
  ·obtain ⟨t,_,rfl⟩:=List.mem_map.1 hx
   unfold markOf
   dsimp only
   split<;>simp
  ·obtain ⟨t,_,rfl⟩:=List.mem_map.1 hx
   simp
 revert h
 generalize marksOf F = l
 induction l with
 | nil=>intro _;simp
 | cons x l ih =>
  intro h
  have h1:=h x List.mem_cons_self
  have h2:=ih (fun y hy=>h y (List.mem_cons_of_mem _ hy))
  simp only [List.map_cons,List.sum_cons,List.length_cons]
  omega
theorem fin (A0 : Option Addr) (c0 : Nat) (l0 : List OFnExactShapeFirst.S50) (a1 a2 : Int) (w : World) (hT : OFnExactShapeFirst.Tab w) (hr0 : Kd.C OFnExactShapeFirst.k50 w A0 l0.length l0) (hc0 : l0.length ≤ c0) (g : gL gModule l0) (_ : gInt a1) (_ : gInt a2) :
  Calls Tryz.prog 3 #[.slice A0 l0.length c0,.int .i64 a1,.int .i64 a2] w fun e w'=>e = .returned (.bool true) ∧ Below w.heap.size w w':=by
 obtain ⟨L,hL,h⟩:=Pure.FnExactShapeFirst l0 a1 a2 g
 refine law A0 c0 l0 a1 a2 w hT hr0 hc0 L hL (fun h0=>?_)
 obtain ⟨w0,h1,h2,h3,h4,h5,⟨F,b,h6,h7,h8,h9,h10⟩,h11⟩:=h h0
 refine ⟨_,_,_,h1,h2,h3,h5,⟨_,F,b,h4,h6,h7,h8,h9,h10,h11⟩,Nat.le_trans (show ((l0.map cModule).map cntMod).sum ≤ 3145728 from shelf_count w0) (by omega),?_⟩
 by_cases hc : shapeOk (l0.map cModule) a1 a2 = true
 ·rw [h10 hc]
  have hm:=marks_count F
  have hl : (marksOf F).length = F.f1.length + F.f3.length:=by unfold marksOf;rw [List.length_append,List.length_map,List.length_map]
  omega
 ·rw [h11 (by simpa using hc)]
  exact Nat.zero_le _
end Go.Proofs.YtcdamcfklehedaaGreatDoor.Hand
