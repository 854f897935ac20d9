/-
  For every input the law answers true and leaves the input as it was, whatever the scheduler does: the goroutines' run is led along a sequential run of the same function. Conditions: those of the row alone.
-/
import Derived.Test.YtcoppnbjpncdcaaM5
section
namespace Go.Proofs.Ytcoppnbjpncdcaa.PAll
open Go.RowKit Go.Proofs.YtcoppnbjpncdcaaW.PrintWords Go.Proofs.YtcoppnbjpncdcaaW.PrintLast Go.Proofs.YtcoppnbjpncdcaaW.PrintMore
set_option linter.unusedVariables false
set_option linter.unusedSimpArgs false
def impl_askedValid.f (k : Nat) (l0 : List (S30)) (a1_0 : Int) (a1_1 : Int) (a2 : Int) : Option (Bool) := (impl_RangesValid.f k l0).bind fun t167 => (if t167 = true then ((impl_rangeValid.f a1_0 a1_1).bind fun t168 => (if t168 = true then (some (decide (a2 ≥ 1))) else (some false))) else (some false))
set_option maxHeartbeats 8000000 in
set_option maxRecDepth 100000 in
theorem impl_askedValid.calls (k : Nat) (A0 : Option Addr) (c0 : Nat) (l0 : List (S30)) (a1_0 : Int) (a1_1 : Int) (a2 : Int) (r : Bool) (w : World) (hr0 : Kd.C k30 w A0 l0.length l0) (hc0 : l0.length ≤ c0) (h : impl_askedValid.f k l0 a1_0 a1_1 a2 = some r) :
   Calls Tp.prog 37 #[.slice A0 l0.length c0, .agg #[.int .i64 a1_0, .int .i64 a1_1], .int .i64 a2] w fun e w' => e = .returned (.bool r) ∧ Below w.heap.size w w' := by
 have hu30 := Tp.underlying30
 have HR0 := Aside0.mk hr0
 have HC0 := Aside0.mk hc0
 clear hr0 hc0
 have HB := Aside0.mk (Below.refl w.heap.size w)
 have H : ((impl_RangesValid.f k l0).bind fun t167 => (if t167 = true then ((impl_rangeValid.f a1_0 a1_1).bind fun t168 => (if t168 = true then (some (decide (a2 ≥ 1))) else (some false))) else (some false))) = some r := h
 clear h
 replace H := Option.bind_eq_some_iff.mp H
 obtain ⟨t167, A40, H⟩ := H
 replace H : (if t167 = true then ((impl_rangeValid.f a1_0 a1_1).bind fun t168 => (if t168 = true then (some (decide (a2 ≥ 1))) else (some false))) else (some false)) = some r := H
 have A4 := Aside0.mk A40
 clear A40
 by_cases c5 : t167 = true
 · subst c5
   have H1 : ((impl_rangeValid.f a1_0 a1_1).bind fun t168 => (if t168 = true then (some (decide (a2 ≥ 1))) else (some false))) = some r := by rw [if_pos rfl] at H; exact H
   clear H
   have H := H1
   clear H1
   replace H := Option.bind_eq_some_iff.mp H
   obtain ⟨t168, A60, H⟩ := H
   replace H : (if t168 = true then (some (decide (a2 ≥ 1))) else (some false)) = some r := H
   have A6 := Aside0.mk A60
   clear A60
   by_cases c7 : t168 = true
   · subst c7
     have H1 : (some (decide (a2 ≥ 1))) = some r := by rw [if_pos rfl] at H; exact H
     clear H
     have H := H1
     clear H1
     obtain rfl := Option.some.inj H
     go_enter Tp.func37, Try.ntmps37
     go_wp2_with (first | ((with_reducible refine gate_dst (N := 4) rfl ?_); refine box_event ?hg (N := 4) ?hd (cs := #[.int .i64 a1_0, .int .i64 a1_1]) (t := 30) ?hr ?_; (case hd => rfl); (case hg => rfl); (case hr => (go_simp; done)); intro gb166 hg w8 hbox hb; have n0_ := Aside0.mk (below_step HB.out hb); have n1_ := Aside0.mk (hbox); have n2_ := Aside0.mk ((by rw [hg]; exact (below_size HB.out) : w.heap.size ≤ gb166)); have n3_ := Aside0.mk ((by rw [hg]; exact (below_size HB.out) : w.heap.size ≤ gb166)); clear HB; have HB := n0_; have BK166 := n1_; have GW166 := n2_; have GE166 := n3_; clear n0_ n1_ n2_ n3_; clear hb hbox hg) | ((with_reducible refine gate_callee (f := 45) rfl ?_); refine goesL_ (some 8) rfl rfl Tp.func45 (by kernel_rfl) rfl #[.slice A0 l0.length c0] rfl (by (try simp only [List.map_toArray, List.map_cons, List.map_nil]); (rfl)) ?_; (with_reducible refine (impl_RangesValid.calls k _ _ l0 true _ ?side1 ?side2 A4.out).mono ?_); (case side1 => exact Kd.C_below HR0.out HB.out); (case side2 => exact HC0.out); rintro e w9 ⟨rfl, hb⟩; refine ⟨_, rfl, ?_⟩; have n0_ := Aside0.mk (blk_below (g := gb166) (o := .cells #[.int .i64 a1_0, .int .i64 a1_1] 30 (0, 0)) (by exact BK166.out) hb); have n1_ := Aside0.mk (below_step HB.out hb); clear BK166; clear HB; have BK166 := n0_; have HB := n1_; clear n0_ n1_; (try clear hb); (try clear hb2); (try clear hk); (try clear hi); have hcz10_0 : w9.cell? ⟨gb166, 0, none⟩ = some (.int .i64 a1_0) := (blk_cell BK166.out 0).trans rfl; have hcz10_1 : w9.cell? ⟨gb166, 1, none⟩ = some (.int .i64 a1_1) := (blk_cell BK166.out 1).trans rfl; have hfz10_0 := blk_frozen BK166.out 0; have hfz10_1 := blk_frozen BK166.out 1) | (go_at_call 51; (with_reducible refine (impl_rangeValid.calls a1_0 a1_1 true _ A6.out).mono ?_); rintro e w11 ⟨rfl, hb⟩; have n0_ := Aside0.mk (blk_below (g := gb166) (o := .cells #[.int .i64 a1_0, .int .i64 a1_1] 30 (0, 0)) (by exact BK166.out) hb); have n1_ := Aside0.mk (below_step HB.out hb); clear BK166; clear HB; have BK166 := n0_; have HB := n1_; clear n0_ n1_; (try clear hb); (try clear hb2); (try clear hk); (try clear hi)))
     go_ret
     exact ⟨rfl, HB.out⟩
   · replace c7 := Bool.eq_false_iff.mpr c7
     subst c7
     have H1 : (some false) = some r := by rw [if_neg (show ¬ (false = true) by decide)] at H; exact H
     clear H
     have H := H1
     clear H1
     obtain rfl := Option.some.inj H
     go_enter Tp.func37, Try.ntmps37
     go_wp2_with (first | ((with_reducible refine gate_dst (N := 4) rfl ?_); refine box_event ?hg (N := 4) ?hd (cs := #[.int .i64 a1_0, .int .i64 a1_1]) (t := 30) ?hr ?_; (case hd => rfl); (case hg => rfl); (case hr => (go_simp; done)); intro gb166 hg w12 hbox hb; have n0_ := Aside0.mk (below_step HB.out hb); have n1_ := Aside0.mk (hbox); have n2_ := Aside0.mk ((by rw [hg]; exact (below_size HB.out) : w.heap.size ≤ gb166)); have n3_ := Aside0.mk ((by rw [hg]; exact (below_size HB.out) : w.heap.size ≤ gb166)); clear HB; have HB := n0_; have BK166 := n1_; have GW166 := n2_; have GE166 := n3_; clear n0_ n1_ n2_ n3_; clear hb hbox hg) | ((with_reducible refine gate_callee (f := 45) rfl ?_); refine goesL_ (some 8) rfl rfl Tp.func45 (by kernel_rfl) rfl #[.slice A0 l0.length c0] rfl (by (try simp only [List.map_toArray, List.map_cons, List.map_nil]); (rfl)) ?_; (with_reducible refine (impl_RangesValid.calls k _ _ l0 true _ ?side1 ?side2 A4.out).mono ?_); (case side1 => exact Kd.C_below HR0.out HB.out); (case side2 => exact HC0.out); rintro e w13 ⟨rfl, hb⟩; refine ⟨_, rfl, ?_⟩; have n0_ := Aside0.mk (blk_below (g := gb166) (o := .cells #[.int .i64 a1_0, .int .i64 a1_1] 30 (0, 0)) (by exact BK166.out) hb); have n1_ := Aside0.mk (below_step HB.out hb); clear BK166; clear HB; have BK166 := n0_; have HB := n1_; clear n0_ n1_; (try clear hb); (try clear hb2); (try clear hk); (try clear hi); have hcz14_0 : w13.cell? ⟨gb166, 0, none⟩ = some (.int .i64 a1_0) := (blk_cell BK166.out 0).trans rfl; have hcz14_1 : w13.cell? ⟨gb166, 1, none⟩ = some (.int .i64 a1_1) := (blk_cell BK166.out 1).trans rfl; have hfz14_0 := blk_frozen BK166.out 0; have hfz14_1 := blk_frozen BK166.out 1) | (go_at_call 51; (with_reducible refine (impl_rangeValid.calls a1_0 a1_1 false _ A6.out).mono ?_); rintro e w15 ⟨rfl, hb⟩; have n0_ := Aside0.mk (blk_below (g := gb166) (o := .cells #[.int .i64 a1_0, .int .i64 a1_1] 30 (0, 0)) (by exact BK166.out) hb); have n1_ := Aside0.mk (below_step HB.out hb); clear BK166; clear HB; have BK166 := n0_; have HB := n1_; clear n0_ n1_; (try clear hb); (try clear hb2); (try clear hk); (try clear hi)))
     go_ret
     exact ⟨rfl, HB.out⟩
 · replace c5 := Bool.eq_false_iff.mpr c5
   subst c5
   have H1 : (some false) = some r := by rw [if_neg (show ¬ (false = true) by decide)] at H; exact H
   clear H
   have H := H1
   clear H1
   obtain rfl := Option.some.inj H
   go_enter Tp.func37, Try.ntmps37
   go_wp2_with (first | ((with_reducible refine gate_dst (N := 4) rfl ?_); refine box_event ?hg (N := 4) ?hd (cs := #[.int .i64 a1_0, .int .i64 a1_1]) (t := 30) ?hr ?_; (case hd => rfl); (case hg => rfl); (case hr => (go_simp; done)); intro gb166 hg w16 hbox hb; have n0_ := Aside0.mk (below_step HB.out hb); have n1_ := Aside0.mk (hbox); have n2_ := Aside0.mk ((by rw [hg]; exact (below_size HB.out) : w.heap.size ≤ gb166)); have n3_ := Aside0.mk ((by rw [hg]; exact (below_size HB.out) : w.heap.size ≤ gb166)); clear HB; have HB := n0_; have BK166 := n1_; have GW166 := n2_; have GE166 := n3_; clear n0_ n1_ n2_ n3_; clear hb hbox hg) | ((with_reducible refine gate_callee (f := 45) rfl ?_); refine goesL_ (some 8) rfl rfl Tp.func45 (by kernel_rfl) rfl #[.slice A0 l0.length c0] rfl (by (try simp only [List.map_toArray, List.map_cons, List.map_nil]); (rfl)) ?_; (with_reducible refine (impl_RangesValid.calls k _ _ l0 false _ ?side1 ?side2 A4.out).mono ?_); (case side1 => exact Kd.C_below HR0.out HB.out); (case side2 => exact HC0.out); rintro e w17 ⟨rfl, hb⟩; refine ⟨_, rfl, ?_⟩; have n0_ := Aside0.mk (blk_below (g := gb166) (o := .cells #[.int .i64 a1_0, .int .i64 a1_1] 30 (0, 0)) (by exact BK166.out) hb); have n1_ := Aside0.mk (below_step HB.out hb); clear BK166; clear HB; have BK166 := n0_; have HB := n1_; clear n0_ n1_; (try clear hb); (try clear hb2); (try clear hk); (try clear hi)))
   go_ret
   exact ⟨rfl, HB.out⟩
mutual
def impl_minus.l0 : Nat → List (S30) → List (S30) → Int → Int → Int → Int → Option ((List (S30)))
 | 0, _, _, _, _, _, _ => none
 | k + 1, x5, x9, x10, x11, x170000, x170001 => if x11 < x10 then (if 0 ≤ x11 then (if x11 < (x9.length : Int) then (if ((rd_T30 x9 x11).f1) ≤ x170000 then (impl_minus.j1 k x5 x9 x10 x11 true x170000 x170001 ((rd_T30 x9 x11).f0) ((rd_T30 x9 x11).f1)) else (impl_minus.j1 k x5 x9 x10 x11 (decide (((rd_T30 x9 x11).f0) ≥ x170001)) x170000 x170001 ((rd_T30 x9 x11).f0) ((rd_T30 x9 x11).f1))) else (none)) else (none)) else (if x170000 < x170001 then (if x5.length < 8796093022208 then (some (x5 ++ [(⟨x170000, x170001⟩ : S30)])) else (none)) else (some x5))
def impl_minus.j1 : Nat → List (S30) → List (S30) → Int → Int → Bool → Int → Int → Int → Int → Option ((List (S30)))
 | 0, _, _, _, _, _, _, _, _, _ => none
 | k + 1, x5, x9, x10, x11, x26, x170000, x170001, x178000, x178001 => if x26 = true then (impl_minus.l0 k x5 x9 x10 (wrap64 (x11 + 1)) x170000 x170001) else (if x170000 < x178000 then (if x5.length < 8796093022208 then (impl_minus.l0 k (x5 ++ [(⟨x170000, x178000⟩ : S30)]) x9 x10 (wrap64 (x11 + 1)) x178001 x170001) else (none)) else (impl_minus.l0 k x5 x9 x10 (wrap64 (x11 + 1)) x178001 x170001))
end
def impl_minus.f (k : Nat) (a0_0 : Int) (a0_1 : Int) (l1 : List (S30)) : Option ((List (S30))) := impl_minus.l0 k (([] : List (S30))) l1 (l1.length : Int) 0 a0_0 a0_1
set_option maxHeartbeats 8000000 in
set_option maxRecDepth 100000 in
theorem impl_minus.calls (k : Nat) (a0_0 : Int) (a0_1 : Int) (A1 : Option Addr) (c1 : Nat) (l1 : List (S30)) (r : List (S30)) (w : World) (hr1 : Kd.C k30 w A1 l1.length l1) (hc1 : l1.length ≤ c1) (h : impl_minus.f k a0_0 a0_1 l1 = some r) :
   Calls Tp.prog 48 #[.agg #[.int .i64 a0_0, .int .i64 a0_1], .slice A1 l1.length c1] w fun e w' => ∃ v0_ : Value, e = .returned (v0_) ∧ Kd.R k30 30 w' w.heap.size (fun _ => True) v0_ r ∧ Below w.heap.size w w' := by
 have hu30 := Tp.underlying30
 have HR1 := Aside0.mk hr1
 have HC1 := Aside0.mk hc1
 clear hr1 hc1
 have HB := Aside0.mk (Below.refl w.heap.size w)
 have H : (impl_minus.l0 k (([] : List (S30))) l1 (l1.length : Int) 0 a0_0 a0_1) = some r := h
 clear h
 obtain ⟨y170, hy170⟩ : ∃ y_ : List (S30), y_ = (([] : List (S30))) := ⟨_, rfl⟩
 replace H : (impl_minus.l0 k y170 l1 (l1.length : Int) 0 a0_0 a0_1) = some r := by ((rw [hy170]; with_reducible exact H))
 have Ny170 := Aside0.mk hy170
 clear hy170
 have H' := Aside0.mk H
 clear H
 go_enter Tp.func48, Try.ntmps48
 go_wp2_with (first | ((with_reducible refine gate_dst (N := 2) rfl ?_); refine box_event ?hg (N := 2) ?hd (cs := #[.int .i64 a0_0, .int .i64 a0_1]) (t := 30) ?hr ?_; (case hd => rfl); (case hg => rfl); (case hr => (go_simp; done)); intro gb169 hg w3 hbox hb; have n0_ := Aside0.mk (below_step HB.out hb); have n1_ := Aside0.mk (hbox); have n2_ := Aside0.mk ((by rw [hg]; exact (below_size HB.out) : w.heap.size ≤ gb169)); have n3_ := Aside0.mk ((by rw [hg]; exact (below_size HB.out) : w.heap.size ≤ gb169)); clear HB; have HB := n0_; have BK169 := n1_; have GW169 := n2_; have GE169 := n3_; clear n0_ n1_ n2_ n3_; clear hb hbox hg) | ((with_reducible refine gate_dst (N := 8) rfl ?_); refine Kd.R_lit k30 _ 30 ?hg (N := 8) ?hd (xs := ([] : List (S30))) (inner := []) (ok := fun _ => True) (okp := fun _ => True) ?hr ?hp (fun _ hk => hk) trivial (Below.refl _ _) (Nat.le_refl _) (by simp) ?_; (case hd => rfl); (case hg => rfl); (case hr => (go_simp; done)); (case hp => exact (Reps.none _ _)); intro v171 w4 ho5 hb hg_ hnew_; clear hg_ hnew_; ((rw [← Ny170.out] at ho5)); have n0_ := Aside0.mk (Kd.R_lower (Kd.R_newB ho5 (g := gb169) (o := .cells #[.int .i64 a0_0, .int .i64 a0_1] 30 (0, 0)) (by exact BK169.out)) (below_size HB.out)); have n1_ := Aside0.mk (blk_below (g := gb169) (o := .cells #[.int .i64 a0_0, .int .i64 a0_1] 30 (0, 0)) (by exact BK169.out) hb); have n2_ := Aside0.mk (below_step HB.out hb); clear BK169; clear HB; have HO172 := n0_; have BK169 := n1_; have HB := n2_; clear n0_ n1_ n2_; clear hb ho5))
 go_loopg [5, 11] k (fun kq v5 v11 w' => ∃ (x5_1 : List (S30)) (x11_1 : Int) (x170000_1 : Int), v11 = .int .i64 x11_1 ∧ Aside0 (impl_minus.l0 kq x5_1 l1 (l1.length : Int) x11_1 x170000_1 a0_1 = some r) ∧ Aside0 (kq ≤ k) ∧ Aside0 (Kd.R k30 30 w' w.heap.size (fun k_ => k_ ≠ gb169) v5 x5_1) ∧ Aside0 (w'.heap[gb169]? = some (.cells #[.int .i64 x170000_1, .int .i64 a0_1] 30 (0, 0))) ∧ Aside0 (Below w.heap.size w w'))
 case atStart => exact ⟨(y170), (0), (a0_0), (by (rfl)), H', ⟨Nat.le_refl _⟩, ⟨by exact Kd.R_mono HO172.out (fun _ hk => hk.2)⟩, ⟨by exact BK169.out⟩, ⟨HB.out⟩⟩
 case round =>
   clear H'
   try clear c1
   try clear p2
   try clear c4
   obtain ⟨x5_1, x11_1, x170000_1, rfl, HA, HK1, HO_5, BK169, HB⟩ := hrel
   cases gk with
   | zero => exact absurd HA.out (by simp [impl_minus.l0])
   | succ k1 =>
     have H := HA.out
     clear HA
     simp only [impl_minus.l0] at H
     by_cases c6 : x11_1 < (l1.length : Int)
     · rw [if_pos c6] at H
       have c6b0 : decide (x11_1 < (l1.length : Int)) = true := decide_eq_true c6
       clear c6
       by_cases c7 : 0 ≤ x11_1
       · rw [if_pos c7] at H
         have c7b0 : decide (0 ≤ x11_1) = true := decide_eq_true c7
         clear c7
         by_cases c8 : x11_1 < (l1.length : Int)
         · rw [if_pos c8] at H
           have c8b0 : decide (x11_1 < (l1.length : Int)) = true := decide_eq_true c8
           clear c8
           have HC9 := Aside0.mk H
           clear H
           have p176 : 0 ≤ (x11_1 : Int) := of_decide_eq_true (by with_reducible assumption)
           have q176 : x11_1 < (l1.length : Int) := of_decide_eq_true (by with_reducible assumption)
           obtain ⟨ad176, e176, hx176_0, hx176_1⟩ := at_T30 HR1.out x11_1 p176 q176
           cases e176
           replace hx176_0 := (HB.out.cell (World.block_lt_of_cell? w _ hx176_0)).trans hx176_0
           replace hx176_1 := (HB.out.cell (World.block_lt_of_cell? w _ hx176_1)).trans hx176_1
           replace p176 := eq_true p176
           replace q176 := eq_true q176
           go_upto_region 5 with ((((with_reducible refine gate_dst (N := 7) rfl ?_); refine box_event ?hg (N := 7) ?hd (cs := #[.int .i64 0, .int .i64 0]) (t := 30) ?hr ?_; (case hd => rfl); (case hg => rfl); (case hr => (go_simp; done)); intro gb177 hg w10 hbox hb; have n0_ := Aside0.mk (Kd.R_below (Kd.R_elderB (by exact HO_5.out) gb177 (Nat.le_of_eq hg.symm)) hb); have n1_ := Aside0.mk (blk_below (g := gb169) (o := .cells #[.int .i64 x170000_1, .int .i64 a0_1] 30 (0, 0)) (by exact BK169.out) hb); have n2_ := Aside0.mk (below_step HB.out hb); have n3_ := Aside0.mk (hbox); have n4_ := Aside0.mk ((by rw [hg]; exact (below_size HB.out) : w.heap.size ≤ gb177)); have n5_ := Aside0.mk ((by rw [hg]; exact (below_size HB.out) : w.heap.size ≤ gb177)); have n6_ := Aside0.mk ((by rw [hg]; exact Nat.ne_of_lt (blk_lt (g := gb169) (o := .cells #[.int .i64 x170000_1, .int .i64 a0_1] 30 (0, 0)) (by exact BK169.out)) : gb169 ≠ gb177)); have n7_ := Aside0.mk ((by rw [hg]; exact Nat.ne_of_gt (blk_lt (g := gb169) (o := .cells #[.int .i64 x170000_1, .int .i64 a0_1] 30 (0, 0)) (by exact BK169.out)) : gb177 ≠ gb169)); clear HO_5; clear BK169; clear HB; have HO_5 := n0_; have BK169 := n1_; have HB := n2_; have BK177 := n3_; have GW177 := n4_; have GE177 := n5_; have NB169_177 := n6_; have NB177_169 := n7_; clear n0_ n1_ n2_ n3_ n4_ n5_ n6_ n7_; clear hb hbox hg; have hnb11 := NB177_169.out; have hnc11 := NB169_177.out; have hcz12_0 : w10.cell? ⟨gb177, 0, none⟩ = some (.int .i64 0) := (blk_cell BK177.out 0).trans rfl; have hcz12_1 : w10.cell? ⟨gb177, 1, none⟩ = some (.int .i64 0) := (blk_cell BK177.out 1).trans rfl; have hfz12_0 := blk_frozen BK177.out 0; have hfz12_1 := blk_frozen BK177.out 1)))
           (try simp only [Act.put, zs])
           go_cut [26] (fun v26 wc => ∃ (kq : Nat) (x26_8 : Bool), v26 = .bool x26_8 ∧ Aside0 (impl_minus.j1 kq x5_1 l1 (l1.length : Int) x11_1 x26_8 x170000_1 a0_1 ((rd_T30 l1 x11_1).f0) ((rd_T30 l1 x11_1).f1) = some r) ∧ Aside0 (kq ≤ k1) ∧ Aside0 (Kd.R k30 30 wc w.heap.size (fun k_ => k_ ≠ gb169 ∧ k_ ≠ gb177) u5 x5_1) ∧ Aside0 (wc.heap[gb169]? = some (.cells #[.int .i64 x170000_1, .int .i64 a0_1] 30 (0, 0))) ∧ Aside0 (wc.heap[gb177]? = some (.cells #[.int .i64 ((rd_T30 l1 x11_1).f0), .int .i64 ((rd_T30 l1 x11_1).f1)] 30 (0, 0))) ∧ Aside0 (Below w.heap.size w wc))
           case first =>
             have H := HC9.out
             clear HC9
             by_cases c13 : ((rd_T30 l1 x11_1).f1) ≤ x170000_1
             · rw [if_pos c13] at H
               have c13b0 : decide (((rd_T30 l1 x11_1).f1) ≤ x170000_1) = true := decide_eq_true c13
               clear c13
               ((skip))
               have H' := Aside0.mk H
               clear H
               have hnb14 := NB177_169.out
               have hnc14 := NB169_177.out
               have hcz15_0 : w10.cell? ⟨gb177, 0, none⟩ = some (.int .i64 0) := (blk_cell BK177.out 0).trans rfl
               have hcz15_1 : w10.cell? ⟨gb177, 1, none⟩ = some (.int .i64 0) := (blk_cell BK177.out 1).trans rfl
               have hfz15_0 := blk_frozen BK177.out 0
               have hfz15_1 := blk_frozen BK177.out 1
               have hcz16_0 : w10.cell? ⟨gb169, 0, none⟩ = some (.int .i64 x170000_1) := (blk_cell BK169.out 0).trans rfl
               have hcz16_1 : w10.cell? ⟨gb169, 1, none⟩ = some (.int .i64 a0_1) := (blk_cell BK169.out 1).trans rfl
               have hfz16_0 := blk_frozen BK169.out 0
               have hfz16_1 := blk_frozen BK169.out 1
               go_wp2
               go_meet
               case rel => exact ⟨_, (true), (by (rfl)), H', ⟨by have := HK1.out; (omega)⟩, ⟨by exact Kd.R_mono (Kd.R_far (p := ⟨gb177, 1, none⟩) (Kd.R_far (p := ⟨gb177, 0, none⟩) (Kd.R_mono HO_5.out (fun k_ hk => (⟨hk, hk.2⟩ : _ ∧ k_ ≠ gb177))) (fun _ hk => hk.2) (.int .i64 ((rd_T30 l1 x11_1).f0))) (fun _ hk => hk.2) (.int .i64 ((rd_T30 l1 x11_1).f1))) (fun _ hk => ⟨hk.1.1, hk.1.2⟩)⟩, ⟨by refine blk_far ?_ NB169_177.out _; refine blk_far ?_ NB169_177.out _; exact BK169.out⟩, ⟨by refine blk_put (cs := #[.int .i64 ((rd_T30 l1 x11_1).f0), .int .i64 0]) ?_ 1 _ rfl; refine blk_put (cs := #[.int .i64 0, .int .i64 0]) ?_ 0 _ rfl; exact BK177.out⟩, ⟨by repeat (((with_reducible first | exact HB.out | refine below_set ?_ GE177.out)))⟩⟩
             · rw [if_neg c13] at H
               have c13b0 : decide (((rd_T30 l1 x11_1).f1) ≤ x170000_1) = false := decide_eq_false c13
               clear c13
               ((skip))
               have H' := Aside0.mk H
               clear H
               have hnb17 := NB177_169.out
               have hnc17 := NB169_177.out
               have hcz18_0 : w10.cell? ⟨gb177, 0, none⟩ = some (.int .i64 0) := (blk_cell BK177.out 0).trans rfl
               have hcz18_1 : w10.cell? ⟨gb177, 1, none⟩ = some (.int .i64 0) := (blk_cell BK177.out 1).trans rfl
               have hfz18_0 := blk_frozen BK177.out 0
               have hfz18_1 := blk_frozen BK177.out 1
               have hcz19_0 : w10.cell? ⟨gb169, 0, none⟩ = some (.int .i64 x170000_1) := (blk_cell BK169.out 0).trans rfl
               have hcz19_1 : w10.cell? ⟨gb169, 1, none⟩ = some (.int .i64 a0_1) := (blk_cell BK169.out 1).trans rfl
               have hfz19_0 := blk_frozen BK169.out 0
               have hfz19_1 := blk_frozen BK169.out 1
               go_wp2
               go_meet
               case rel => exact ⟨_, (decide (((rd_T30 l1 x11_1).f0) ≥ a0_1)), (by (rfl)), H', ⟨by have := HK1.out; (omega)⟩, ⟨by exact Kd.R_mono (Kd.R_far (p := ⟨gb177, 1, none⟩) (Kd.R_far (p := ⟨gb177, 0, none⟩) (Kd.R_mono HO_5.out (fun k_ hk => (⟨hk, hk.2⟩ : _ ∧ k_ ≠ gb177))) (fun _ hk => hk.2) (.int .i64 ((rd_T30 l1 x11_1).f0))) (fun _ hk => hk.2) (.int .i64 ((rd_T30 l1 x11_1).f1))) (fun _ hk => ⟨hk.1.1, hk.1.2⟩)⟩, ⟨by refine blk_far ?_ NB169_177.out _; refine blk_far ?_ NB169_177.out _; exact BK169.out⟩, ⟨by refine blk_put (cs := #[.int .i64 ((rd_T30 l1 x11_1).f0), .int .i64 0]) ?_ 1 _ rfl; refine blk_put (cs := #[.int .i64 0, .int .i64 0]) ?_ 0 _ rfl; exact BK177.out⟩, ⟨by repeat (((with_reducible first | exact HB.out | refine below_set ?_ GE177.out)))⟩⟩
           case rest =>
             clear HC9
             try clear c1
             try clear p1
             try clear q1
             try clear hx1
             try clear p2
             try clear c4
             try clear c6
             try clear c6b0
             try clear c7
             try clear c7b0
             try clear c8
             try clear c8b0
             try clear c11
             try clear c13
             try clear c13b0
             try clear c14
             try clear c17
             try clear p17
             try clear q17
             try clear hx17
             try clear hcz12_0
             try clear hcz12_1
             try clear hcz15_0
             try clear hcz15_1
             try clear hcz16_0
             try clear hcz16_1
             try clear hcz18_0
             try clear hcz18_1
             try clear hcz19_0
             try clear hcz19_1
             try clear hfz12_0
             try clear hfz12_1
             try clear hfz15_0
             try clear hfz15_1
             try clear hfz16_0
             try clear hfz16_1
             try clear hfz18_0
             try clear hfz18_1
             try clear hfz19_0
             try clear hfz19_1
             try clear hx176_0
             try clear hx176_1
             try clear p176
             try clear p2
             try clear q176
             obtain ⟨kq, x26_8, rfl, HA, HJ8, HO_5, BK169, BK177, HB⟩ := hcut
             cases kq with
             | zero => exact absurd HA.out (by simp [impl_minus.j1])
             | succ kj8 =>
               have H := HA.out
               clear HA
               simp only [impl_minus.j1] at H
               by_cases c20 : x26_8 = true
               · subst c20
                 have H1 : (impl_minus.l0 kj8 x5_1 l1 (l1.length : Int) (wrap64 (x11_1 + 1)) x170000_1 a0_1) = some r := by rw [if_pos rfl] at H; exact H
                 clear H
                 have H := H1
                 clear H1
                 have H' := Aside0.mk H
                 clear H
                 go_wp2
                 go_roundg kj8
                 case measure => have := HK1.out; have := HJ8.out; omega
                 case rel => exact ⟨(x5_1), (wrap64 (x11_1 + 1)), (x170000_1), (by (rfl)), H', ⟨by have := HK1.out; have := HJ8.out; omega⟩, ⟨by exact Kd.R_mono HO_5.out (fun _ hk => hk.1)⟩, ⟨by exact BK169.out⟩, ⟨HB.out⟩⟩
               · replace c20 := Bool.eq_false_iff.mpr c20
                 subst c20
                 have H1 : (if x170000_1 < ((rd_T30 l1 x11_1).f0) then (if x5_1.length < 8796093022208 then (impl_minus.l0 kj8 (x5_1 ++ [(⟨x170000_1, ((rd_T30 l1 x11_1).f0)⟩ : S30)]) l1 (l1.length : Int) (wrap64 (x11_1 + 1)) ((rd_T30 l1 x11_1).f1) a0_1) else (none)) else (impl_minus.l0 kj8 x5_1 l1 (l1.length : Int) (wrap64 (x11_1 + 1)) ((rd_T30 l1 x11_1).f1) a0_1)) = some r := by rw [if_neg (show ¬ (false = true) by decide)] at H; exact H
                 clear H
                 have H := H1
                 clear H1
                 by_cases c21 : x170000_1 < ((rd_T30 l1 x11_1).f0)
                 · rw [if_pos c21] at H
                   have c21b0 : decide (x170000_1 < ((rd_T30 l1 x11_1).f0)) = true := decide_eq_true c21
                   clear c21
                   by_cases c22 : x5_1.length < 8796093022208
                   · rw [if_pos c22] at H
                     have LMc22 := Aside0.mk c22
                     clear c22
                     obtain ⟨y178, hy178⟩ : ∃ y_ : List (S30), y_ = (x5_1 ++ [(⟨x170000_1, ((rd_T30 l1 x11_1).f0)⟩ : S30)]) := ⟨_, rfl⟩
                     replace H : (impl_minus.l0 kj8 y178 l1 (l1.length : Int) (wrap64 (x11_1 + 1)) ((rd_T30 l1 x11_1).f1) a0_1) = some r := by ((rw [hy178]; with_reducible exact H))
                     have Ny178 := Aside0.mk hy178
                     clear hy178
                     have H' := Aside0.mk H
                     clear H
                     have hnb23 := NB169_177.out
                     have hnc23 := NB177_169.out
                     have hcz24_0 : wc.cell? ⟨gb169, 0, none⟩ = some (.int .i64 x170000_1) := (blk_cell BK169.out 0).trans rfl
                     have hcz24_1 : wc.cell? ⟨gb169, 1, none⟩ = some (.int .i64 a0_1) := (blk_cell BK169.out 1).trans rfl
                     have hfz24_0 := blk_frozen BK169.out 0
                     have hfz24_1 := blk_frozen BK169.out 1
                     have hcz25_0 : wc.cell? ⟨gb177, 0, none⟩ = some (.int .i64 ((rd_T30 l1 x11_1).f0)) := (blk_cell BK177.out 0).trans rfl
                     have hcz25_1 : wc.cell? ⟨gb177, 1, none⟩ = some (.int .i64 ((rd_T30 l1 x11_1).f1)) := (blk_cell BK177.out 1).trans rfl
                     have hfz25_0 := blk_frozen BK177.out 0
                     have hfz25_1 := blk_frozen BK177.out 1
                     go_wp2_with ((((with_reducible refine gate_builtin (b := .append) (xs := #[.tmp 32, .tmp 38]) rfl ?_); at_builtin; refine Kd.R_append k30 (w0 := w) w.heap.size rfl (.tmp 32) (.tmp 38) 28 30 (.agg #[(.int .i64 0), (.int .i64 0)]) 16 rfl Tp.underlying28 info30 rfl (by decide) (by omega) u5 x5_1 (⟨x170000_1, ((rd_T30 l1 x11_1).f0)⟩ : S30) [.int .i64 x170000_1, .int .i64 ((rd_T30 l1 x11_1).f0)] (fun k_ => k_ ≠ gb169 ∧ k_ ≠ gb177) (fun _ => False) rfl rfl ?aP (fun _ hk => hk.elim) ?aF ?aO ?aB ?aS ?aL ?_; (case aP => exact k30_mkM _ _ _ (⟨x170000_1, ((rd_T30 l1 x11_1).f0)⟩ : S30)); (case aB => exact HB.out); (case aF => exact (fun k_ hk => ⟨Kd.freshB (g := gb169) (o := .cells #[.int .i64 x170000_1, .int .i64 a0_1] 30 (0, 0)) (by exact BK169.out) k_ hk, Kd.freshB (g := gb177) (o := .cells #[.int .i64 ((rd_T30 l1 x11_1).f0), .int .i64 ((rd_T30 l1 x11_1).f1)] 30 (0, 0)) (by exact BK177.out) k_ hk⟩)); (case aO => exact (by exact HO_5.out)); (case aS => exact (below_size HB.out)); (case aL => have := LMc22.out; omega); intro v179 w26 ho hb hg hat; rw [← Ny178.out] at ho; have n0_ := Aside0.mk (blk_grown (g := gb169) (o := .cells #[.int .i64 x170000_1, .int .i64 a0_1] 30 (0, 0)) (by exact BK169.out) hg (Kd.R_away HO_5.out (fun _ hk => hk.1))); have n1_ := Aside0.mk (blk_grown (g := gb177) (o := .cells #[.int .i64 ((rd_T30 l1 x11_1).f0), .int .i64 ((rd_T30 l1 x11_1).f1)] 30 (0, 0)) (by exact BK177.out) hg (Kd.R_away HO_5.out (fun _ hk => hk.2))); have n2_ := Aside0.mk (hb); have n3_ := Aside0.mk (ho); clear BK169; clear BK177; clear HB; clear HO_5; have BK169 := n0_; have BK177 := n1_; have HB := n2_; have HO180 := n3_; clear n0_ n1_ n2_ n3_; clear ho hb hg hat; have hcz27_0 : w26.cell? ⟨gb177, 0, none⟩ = some (.int .i64 ((rd_T30 l1 x11_1).f0)) := (blk_cell BK177.out 0).trans rfl; have hcz27_1 : w26.cell? ⟨gb177, 1, none⟩ = some (.int .i64 ((rd_T30 l1 x11_1).f1)) := (blk_cell BK177.out 1).trans rfl; have hfz27_0 := blk_frozen BK177.out 0; have hfz27_1 := blk_frozen BK177.out 1; have hcz28_0 : w26.cell? ⟨gb169, 0, none⟩ = some (.int .i64 x170000_1) := (blk_cell BK169.out 0).trans rfl; have hcz28_1 : w26.cell? ⟨gb169, 1, none⟩ = some (.int .i64 a0_1) := (blk_cell BK169.out 1).trans rfl; have hfz28_0 := blk_frozen BK169.out 0; have hfz28_1 := blk_frozen BK169.out 1)))
                     go_roundg kj8
                     case measure => have := HK1.out; have := HJ8.out; omega
                     case rel => exact ⟨(y178), (wrap64 (x11_1 + 1)), (((rd_T30 l1 x11_1).f1)), (by (rfl)), H', ⟨by have := HK1.out; have := HJ8.out; omega⟩, ⟨by exact Kd.R_mono (Kd.R_far (p := ⟨gb169, 0, none⟩) (Kd.R_mono HO180.out (fun k_ hk => (⟨hk, hk.1⟩ : _ ∧ k_ ≠ gb169))) (fun _ hk => hk.2) (.int .i64 ((rd_T30 l1 x11_1).f1))) (fun _ hk => hk.1.1)⟩, ⟨by refine blk_put (cs := #[.int .i64 x170000_1, .int .i64 a0_1]) ?_ 0 _ rfl; exact BK169.out⟩, ⟨by repeat (((with_reducible first | exact HB.out | refine below_set ?_ GE169.out)))⟩⟩
                   · rw [if_neg c22] at H
                     exact absurd H (by simp)
                 · rw [if_neg c21] at H
                   have c21b0 : decide (x170000_1 < ((rd_T30 l1 x11_1).f0)) = false := decide_eq_false c21
                   clear c21
                   have H' := Aside0.mk H
                   clear H
                   have hnb29 := NB169_177.out
                   have hnc29 := NB177_169.out
                   have hcz30_0 : wc.cell? ⟨gb169, 0, none⟩ = some (.int .i64 x170000_1) := (blk_cell BK169.out 0).trans rfl
                   have hcz30_1 : wc.cell? ⟨gb169, 1, none⟩ = some (.int .i64 a0_1) := (blk_cell BK169.out 1).trans rfl
                   have hfz30_0 := blk_frozen BK169.out 0
                   have hfz30_1 := blk_frozen BK169.out 1
                   have hcz31_0 : wc.cell? ⟨gb177, 0, none⟩ = some (.int .i64 ((rd_T30 l1 x11_1).f0)) := (blk_cell BK177.out 0).trans rfl
                   have hcz31_1 : wc.cell? ⟨gb177, 1, none⟩ = some (.int .i64 ((rd_T30 l1 x11_1).f1)) := (blk_cell BK177.out 1).trans rfl
                   have hfz31_0 := blk_frozen BK177.out 0
                   have hfz31_1 := blk_frozen BK177.out 1
                   go_wp2
                   go_roundg kj8
                   case measure => have := HK1.out; have := HJ8.out; omega
                   case rel => exact ⟨(x5_1), (wrap64 (x11_1 + 1)), (((rd_T30 l1 x11_1).f1)), (by (rfl)), H', ⟨by have := HK1.out; have := HJ8.out; omega⟩, ⟨by exact Kd.R_mono (Kd.R_far (p := ⟨gb169, 0, none⟩) (Kd.R_mono HO_5.out (fun k_ hk => (⟨hk, hk.1⟩ : _ ∧ k_ ≠ gb169))) (fun _ hk => hk.2) (.int .i64 ((rd_T30 l1 x11_1).f1))) (fun _ hk => hk.1.1)⟩, ⟨by refine blk_put (cs := #[.int .i64 x170000_1, .int .i64 a0_1]) ?_ 0 _ rfl; exact BK169.out⟩, ⟨by repeat (((with_reducible first | exact HB.out | refine below_set ?_ GE169.out)))⟩⟩
         · rw [if_neg c8] at H
           exact absurd H (by simp)
       · rw [if_neg c7] at H
         exact absurd H (by simp)
     · rw [if_neg c6] at H
       have c6b0 : decide (x11_1 < (l1.length : Int)) = false := decide_eq_false c6
       clear c6
       by_cases c32 : x170000_1 < a0_1
       · rw [if_pos c32] at H
         have c32b0 : decide (x170000_1 < a0_1) = true := decide_eq_true c32
         clear c32
         by_cases c33 : x5_1.length < 8796093022208
         · rw [if_pos c33] at H
           have LMc33 := Aside0.mk c33
           clear c33
           obtain ⟨y173, hy173⟩ : ∃ y_ : List (S30), y_ = (x5_1 ++ [(⟨x170000_1, a0_1⟩ : S30)]) := ⟨_, rfl⟩
           replace H : (some y173) = some r := by ((rw [hy173]; with_reducible exact H))
           have Ny173 := Aside0.mk hy173
           clear hy173
           obtain rfl := Option.some.inj H
           have hcz34_0 : wr.cell? ⟨gb169, 0, none⟩ = some (.int .i64 x170000_1) := (blk_cell BK169.out 0).trans rfl
           have hcz34_1 : wr.cell? ⟨gb169, 1, none⟩ = some (.int .i64 a0_1) := (blk_cell BK169.out 1).trans rfl
           have hfz34_0 := blk_frozen BK169.out 0
           have hfz34_1 := blk_frozen BK169.out 1
           go_wp2_with ((((with_reducible refine gate_builtin (b := .append) (xs := #[.tmp 49, .tmp 51]) rfl ?_); at_builtin; refine Kd.R_append k30 (w0 := w) w.heap.size rfl (.tmp 49) (.tmp 51) 28 30 (.agg #[(.int .i64 0), (.int .i64 0)]) 16 rfl Tp.underlying28 info30 rfl (by decide) (by omega) u5 x5_1 (⟨x170000_1, a0_1⟩ : S30) [.int .i64 x170000_1, .int .i64 a0_1] (fun k_ => k_ ≠ gb169) (fun _ => False) rfl rfl ?aP (fun _ hk => hk.elim) ?aF ?aO ?aB ?aS ?aL ?_; (case aP => exact k30_mkM _ _ _ (⟨x170000_1, a0_1⟩ : S30)); (case aB => exact HB.out); (case aF => exact (fun k_ hk => Kd.freshB (g := gb169) (o := .cells #[.int .i64 x170000_1, .int .i64 a0_1] 30 (0, 0)) (by exact BK169.out) k_ hk)); (case aO => exact (by exact HO_5.out)); (case aS => exact (below_size HB.out)); (case aL => have := LMc33.out; omega); intro v174 w35 ho hb hg hat; rw [← Ny173.out] at ho; have n0_ := Aside0.mk (blk_grown (g := gb169) (o := .cells #[.int .i64 x170000_1, .int .i64 a0_1] 30 (0, 0)) (by exact BK169.out) hg (Kd.R_away HO_5.out (fun _ hk => hk))); have n1_ := Aside0.mk (hb); have n2_ := Aside0.mk (ho); clear BK169; clear HB; clear HO_5; have BK169 := n0_; have HB := n1_; have HO175 := n2_; clear n0_ n1_ n2_; clear ho hb hg hat)))
           go_ret
           exact ⟨_, by (rfl), by exact Kd.R_mono HO175.out (fun _ hk => trivial), HB.out⟩
         · rw [if_neg c33] at H
           exact absurd H (by simp)
       · rw [if_neg c32] at H
         have c32b0 : decide (x170000_1 < a0_1) = false := decide_eq_false c32
         clear c32
         obtain rfl := Option.some.inj H
         have hcz36_0 : wr.cell? ⟨gb169, 0, none⟩ = some (.int .i64 x170000_1) := (blk_cell BK169.out 0).trans rfl
         have hcz36_1 : wr.cell? ⟨gb169, 1, none⟩ = some (.int .i64 a0_1) := (blk_cell BK169.out 1).trans rfl
         have hfz36_0 := blk_frozen BK169.out 0
         have hfz36_1 := blk_frozen BK169.out 1
         go_wp2
         go_ret
         exact ⟨_, by (rfl), by exact Kd.R_mono HO_5.out (fun _ hk => trivial), HB.out⟩
def impl_free.f (k : Nat) (l0 : List (S30)) (a1_0 : Int) (a1_1 : Int) (a2 : Int) : Option ((List (S30))) := (impl_minus.f k a1_0 a1_1 l0).bind fun t => if t.length ≤ 9 then some (t.filter fun r => decide (wrap64 (r.f1 - r.f0) ≥ a2)) else none
theorem wrap_eq64 (n : Int) : IntKind.i64.wrap n = wrap64 n := by
 unfold wrap64
 exact IntKind.wrap_i64 n
theorem selL_filter (xs ys : Nat → Int) (least : Int) (t : List S30) (ht : ∀ j, j < t.length → t[j]? = some ⟨xs j, ys j⟩) : (Q.selL xs ys least t.length).map (fun p => (⟨p.1, p.2⟩ : S30)) = t.filter fun r => decide (wrap64 (r.f1 - r.f0) ≥ least) := by
 have e : t = (List.range t.length).map fun j => (⟨xs j, ys j⟩ : S30) := by
   apply List.ext_getElem?
   intro j
   by_cases hj : j < t.length
   · rw [ht j hj]; simp [hj]
   · rw [List.getElem?_eq_none (by omega), List.getElem?_eq_none (by simp; omega)]
 conv => rhs; rw [e]
 rw [List.filter_map]
 unfold Q.selL Q.longB
 rw [List.map_map]
 congr 1
 apply List.filter_congr
 intro j _
 simp [wrap_eq64]
theorem selL_le (xs ys : Nat → Int) (least : Int) (n : Nat) : (Q.selL xs ys least n).length ≤ n := by
 unfold Q.selL
 rw [List.length_map]
 have := List.length_filter_le (fun j => Q.longB least (xs j) (ys j)) (List.range n)
 rwa [List.length_range] at this
theorem reps_flat (w : World) (base : Nat) (ok : Nat → Prop) : ∀ l : List (Int × Int), Reps (k30.M w base ok) 2 (l.map fun p => (⟨p.1, p.2⟩ : S30)) (Q.flat l)
 | [] => Reps.none _ _
 | p :: l => by exact Reps.c2 (k30_mkM w base ok ⟨p.1, p.2⟩) (reps_flat w base ok l)
theorem R_rowC {n out base : Nat} {l : List (Int × Int)} {w : World} (h : Q.RowC n out l w) (hb : base ≤ out) (hl : l.length ≤ n) (hn : n ≤ 9) : Kd.R k30 30 w base (fun _ => True) (.slice (some ⟨out, 0, none⟩) l.length n) (l.map fun p => (⟨p.1, p.2⟩ : S30)) := by
 obtain ⟨cs, h1, h2, h3⟩ := h
 refine ⟨fun _ _ => trivial, Q.flat l, ⟨?_, .inr ⟨out, n, cs, ?_, hb, h2, ?_, ?_, ?_, ?_⟩⟩, reps_flat _ _ _ l⟩
 · rw [Q.flat_length, List.length_map]; show _ = _ * 2; omega
 · rw [List.length_map]
 · rw [List.length_map]; exact hl
 · unfold maxLen; omega
 · rw [h1]; show _ = n * 2; omega
 · rw [List.length_map, ← h3]; show List.take (l.length * 2) _ = _; rw [Nat.mul_comm]
theorem impl_free.calls (k : Nat) (A0 : Option Addr) (c0 : Nat) (l0 : List (S30)) (a1_0 : Int) (a1_1 : Int) (a2 : Int) (r : List (S30)) (w : World) (hr0 : Kd.C k30 w A0 l0.length l0) (hc0 : l0.length ≤ c0) (h : impl_free.f k l0 a1_0 a1_1 a2 = some r) :
   Calls Tp.prog 38 #[.slice A0 l0.length c0, .agg #[.int .i64 a1_0, .int .i64 a1_1], .int .i64 a2] w fun e w' => ∃ v0_ : Value, e = .returned (v0_) ∧ Kd.R k30 30 w' w.heap.size (fun _ => True) v0_ r ∧ Below w.heap.size w w' := by
 unfold impl_free.f at h
 obtain ⟨t, ht, h⟩ := Option.bind_eq_some_iff.1 h
 have h9 : t.length ≤ 9 := by
   apply Classical.byContradiction
   intro h9
   rw [if_neg h9] at h; exact absurd h (by simp)
 rw [if_pos h9] at h
 obtain rfl := Option.some.inj h
 have hB0 : Below w.heap.size w (Q.boxed w a1_0 a1_1 a2) := ((Below.refl w.heap.size w).alloc (Nat.le_refl _) _).alloc (by simp) _
 have hM := impl_minus.calls k a1_0 a1_1 A0 c0 l0 t (Q.boxed w a1_0 a1_1 a2) (Kd.C_below hr0 hB0) hc0 ht
 refine (Q.freeCalls (A0 := A0) (n0 := l0.length) (c0 := c0) (a := a1_0) (b := a1_1) (least := a2) (w := w) (Q := fun n xs ys => n = t.length ∧ ∀ j, j < t.length → t[j]? = some ⟨xs j, ys j⟩) (hM.mono ?_)).mono ?_
 · rintro e w3 ⟨v, rfl, hR, hB⟩
   obtain ⟨-, inner, ⟨hl, hv⟩, hrep⟩ := hR
   refine ⟨v, rfl, ?_⟩
   rcases hv with ⟨rfl, hn⟩ | ⟨g, cap, cur, rfl, hg, hh, hn, hcm, hcs, htk⟩
   · refine ⟨none, 0, 0, fun _ => 0, fun _ => 0, 0, 0, rfl, by omega, fun h => absurd h (by omega), fun j hj => absurd hj (by omega), hB, hn.symm, fun j hj => absurd hj (by omega)⟩
   · refine ⟨some ⟨g, 0, none⟩, t.length, cap, fun j => (rd_T30 t j).f0, fun j => (rd_T30 t j).f1, g, 0, rfl, h9, fun _ => rfl, ?_, hB, rfl, fun j hj => ?_⟩
     · intro j hj
       have h1 := hrep.2 j _ (List.getElem?_eq_getElem hj)
       have h2 := k30_openM h1
       rw [← htk] at h2
       have e0 : ((List.take (t.length * 2) cur.toList).drop (j * 2)).take 2 = [Value.int .i64 (rd_T30 t j).f0, .int .i64 (rd_T30 t j).f1] := by
         have : rd_T30 t j = t[j] := by simp [rd_T30, List.getD_eq_getElem?_getD, List.getElem?_eq_getElem hj]
         rw [this]; exact h2
       have c0 : cur[2 * j]? = some (Value.int .i64 (rd_T30 t j).f0) := by
         have := congrArg (fun l : List Value => l[0]?) e0
         simp only [List.getElem?_take, List.getElem?_drop, Nat.add_zero] at this
         rw [if_pos (by omega), if_pos (by omega)] at this
         rw [← Array.getElem?_toList, Nat.mul_comm]; exact this
       have c1 : cur[2 * j + 1]? = some (Value.int .i64 (rd_T30 t j).f1) := by
         have := congrArg (fun l : List Value => l[1]?) e0
         simp only [List.getElem?_take, List.getElem?_drop] at this
         rw [if_pos (by omega), if_pos (by omega)] at this
         rw [← Array.getElem?_toList, Nat.mul_comm]; exact this
       have hcell : ∀ i u, cur[i]? = some u → w3.cell? ⟨g, i, none⟩ = some u := by
         intro i u hi
         unfold World.cell?
         simp only [hh]
         simpa using hi
       rw [Nat.zero_add]
       exact ⟨hcell _ _ c0, hcell _ _ c1⟩
     · simp [rd_T30, List.getD_eq_getElem?_getD, List.getElem?_eq_getElem hj]
 · rintro e w' ⟨out, n, xs, ys, rfl, hR, hB, hout, hn, rfl, hq⟩
   refine ⟨_, rfl, ?_, hB⟩
   rw [← selL_filter xs ys a2 t hq]
   exact R_rowC hR hout (selL_le _ _ _ _) hn
def impl_FreeFirst.l0 : Nat → List (S30) → Int → Int → Option (Int × Bool)
 | 0, _, _, _ => none
 | k + 1, x18, x19, x20 => if x20 < x19 then (if 0 ≤ x20 then (if x20 < (x18.length : Int) then (some ((rd_T30 x18 x20).f0, true)) else (none)) else (none)) else (some (0, false))
def impl_FreeFirst.f (k : Nat) (l0 : List (S30)) (a1_0 : Int) (a1_1 : Int) (a2 : Int) : Option (Int × Bool) := (impl_askedValid.f k l0 a1_0 a1_1 a2).bind fun t196 => (if t196 = true then ((impl_free.f k l0 a1_0 a1_1 a2).bind fun t197 => (impl_FreeFirst.l0 k t197 (t197.length : Int) 0)) else (some (0, false)))
set_option maxHeartbeats 8000000 in
set_option maxRecDepth 100000 in
theorem impl_FreeFirst.calls (k : Nat) (A0 : Option Addr) (c0 : Nat) (l0 : List (S30)) (a1_0 : Int) (a1_1 : Int) (a2 : Int) (r1 : Int) (r2 : Bool) (w : World) (hr0 : Kd.C k30 w A0 l0.length l0) (hc0 : l0.length ≤ c0) (h : impl_FreeFirst.f k l0 a1_0 a1_1 a2 = some (r1, r2)) :
   Calls Tp.prog 18 #[.slice A0 l0.length c0, .agg #[.int .i64 a1_0, .int .i64 a1_1], .int .i64 a2] w fun e w' => e = .returned (.tuple #[.int .i64 r1, .bool r2]) ∧ Below w.heap.size w w' := by
 have hu30 := Tp.underlying30
 have HR0 := Aside0.mk hr0
 have HC0 := Aside0.mk hc0
 clear hr0 hc0
 have HB := Aside0.mk (Below.refl w.heap.size w)
 have H : ((impl_askedValid.f k l0 a1_0 a1_1 a2).bind fun t196 => (if t196 = true then ((impl_free.f k l0 a1_0 a1_1 a2).bind fun t197 => (impl_FreeFirst.l0 k t197 (t197.length : Int) 0)) else (some (0, false)))) = some (r1, r2) := h
 clear h
 replace H := Option.bind_eq_some_iff.mp H
 obtain ⟨t196, A40, H⟩ := H
 replace H : (if t196 = true then ((impl_free.f k l0 a1_0 a1_1 a2).bind fun t197 => (impl_FreeFirst.l0 k t197 (t197.length : Int) 0)) else (some (0, false))) = some (r1, r2) := H
 have A4 := Aside0.mk A40
 clear A40
 by_cases c5 : t196 = true
 · subst c5
   have H1 : ((impl_free.f k l0 a1_0 a1_1 a2).bind fun t197 => (impl_FreeFirst.l0 k t197 (t197.length : Int) 0)) = some (r1, r2) := by rw [if_pos rfl] at H; exact H
   clear H
   have H := H1
   clear H1
   replace H := Option.bind_eq_some_iff.mp H
   obtain ⟨t197, A60, H⟩ := H
   replace H : (impl_FreeFirst.l0 k t197 (t197.length : Int) 0) = some (r1, r2) := H
   have A6 := Aside0.mk A60
   clear A60
   have H' := Aside0.mk H
   clear H
   go_enter Tp.func18, Try.ntmps18
   go_wp2_with (first | ((with_reducible refine gate_dst (N := 4) rfl ?_); refine box_event ?hg (N := 4) ?hd (cs := #[.int .i64 a1_0, .int .i64 a1_1]) (t := 30) ?hr ?_; (case hd => rfl); (case hg => rfl); (case hr => (go_simp; done)); intro gb195 hg w7 hbox hb; have n0_ := Aside0.mk (below_step HB.out hb); have n1_ := Aside0.mk (hbox); have n2_ := Aside0.mk ((by rw [hg]; exact (below_size HB.out) : w.heap.size ≤ gb195)); have n3_ := Aside0.mk ((by rw [hg]; exact (below_size HB.out) : w.heap.size ≤ gb195)); clear HB; have HB := n0_; have BK195 := n1_; have GW195 := n2_; have GE195 := n3_; clear n0_ n1_ n2_ n3_; clear hb hbox hg; have hcz8_0 : w7.cell? ⟨gb195, 0, none⟩ = some (.int .i64 a1_0) := (blk_cell BK195.out 0).trans rfl; have hcz8_1 : w7.cell? ⟨gb195, 1, none⟩ = some (.int .i64 a1_1) := (blk_cell BK195.out 1).trans rfl; have hfz8_0 := blk_frozen BK195.out 0; have hfz8_1 := blk_frozen BK195.out 1) | ((with_reducible refine gate_callee (f := 37) rfl ?_); refine goesL_ (some 13) rfl rfl Tp.func37 (by kernel_rfl) rfl #[.slice A0 l0.length c0, .agg #[.int .i64 a1_0, .int .i64 a1_1], .int .i64 a2] rfl (by (try simp only [List.map_toArray, List.map_cons, List.map_nil]); (rfl)) ?_; (with_reducible refine (impl_askedValid.calls k _ _ l0 a1_0 a1_1 a2 true _ ?side1 ?side2 A4.out).mono ?_); (case side1 => exact Kd.C_below HR0.out HB.out); (case side2 => exact HC0.out); rintro e w9 ⟨rfl, hb⟩; refine ⟨_, rfl, ?_⟩; have n0_ := Aside0.mk (blk_below (g := gb195) (o := .cells #[.int .i64 a1_0, .int .i64 a1_1] 30 (0, 0)) (by exact BK195.out) hb); have n1_ := Aside0.mk (below_step HB.out hb); clear BK195; clear HB; have BK195 := n0_; have HB := n1_; clear n0_ n1_; (try clear hb); (try clear hb2); (try clear hk); (try clear hi); have hcz10_0 : w9.cell? ⟨gb195, 0, none⟩ = some (.int .i64 a1_0) := (blk_cell BK195.out 0).trans rfl; have hcz10_1 : w9.cell? ⟨gb195, 1, none⟩ = some (.int .i64 a1_1) := (blk_cell BK195.out 1).trans rfl; have hfz10_0 := blk_frozen BK195.out 0; have hfz10_1 := blk_frozen BK195.out 1) | ((with_reducible refine gate_callee (f := 38) rfl ?_); refine goesL_ (some 18) rfl rfl Tp.func38 (by kernel_rfl) rfl #[.slice A0 l0.length c0, .agg #[.int .i64 a1_0, .int .i64 a1_1], .int .i64 a2] rfl (by (try simp only [List.map_toArray, List.map_cons, List.map_nil]); (rfl)) ?_; (with_reducible refine (impl_free.calls k _ _ l0 a1_0 a1_1 a2 t197 _ ?side1 ?side2 A6.out).mono ?_); (case side1 => exact Kd.C_below HR0.out HB.out); (case side2 => exact HC0.out); rintro e w11 ⟨v198, rfl, ho0, hb⟩; refine ⟨_, rfl, ?_⟩; have n0_ := Aside0.mk (Kd.R_lower (Kd.R_newB ho0 (g := gb195) (o := .cells #[.int .i64 a1_0, .int .i64 a1_1] 30 (0, 0)) (by exact BK195.out)) (below_size HB.out)); have n1_ := Aside0.mk (blk_below (g := gb195) (o := .cells #[.int .i64 a1_0, .int .i64 a1_1] 30 (0, 0)) (by exact BK195.out) hb); have n2_ := Aside0.mk (below_step HB.out hb); clear BK195; clear HB; have HO199 := n0_; have BK195 := n1_; have HB := n2_; clear n0_ n1_ n2_; (try clear hb); (try clear hb2); (try clear hk); (try clear hi); (try clear ho0); obtain ⟨Ao12, co12, eo12⟩ := Kd.R_slice HO199.out; subst eo12))
   go_loopg [20] k (fun kq v20 w' => ∃ (x20_1 : Int), v20 = .int .i64 x20_1 ∧ Aside0 (impl_FreeFirst.l0 kq t197 (t197.length : Int) x20_1 = some (r1, r2)) ∧ Aside0 (kq ≤ k) ∧ Aside0 (Kd.R k30 30 w' w.heap.size (fun k_ => k_ ≠ gb195) (.slice Ao12 t197.length co12) t197) ∧ Aside0 (w'.heap[gb195]? = some (.cells #[.int .i64 a1_0, .int .i64 a1_1] 30 (0, 0))) ∧ Aside0 (Below w.heap.size w w'))
   case atStart => exact ⟨(0), (by (rfl)), H', ⟨Nat.le_refl _⟩, ⟨by exact Kd.R_mono HO199.out (fun _ hk => hk.2)⟩, ⟨by exact BK195.out⟩, ⟨HB.out⟩⟩
   case round =>
     clear H'
     try clear c1
     try clear p2
     try clear c3
     try clear c5
     try clear hcz10_0
     try clear hcz10_1
     try clear hcz8_0
     try clear hcz8_1
     try clear hfz10_0
     try clear hfz10_1
     try clear hfz8_0
     try clear hfz8_1
     obtain ⟨x20_1, rfl, HA, HK1, HO_18, BK195, HB⟩ := hrel
     cases gk with
     | zero => exact absurd HA.out (by simp [impl_FreeFirst.l0])
     | succ k1 =>
       have H := HA.out
       clear HA
       simp only [impl_FreeFirst.l0] at H
       by_cases c13 : x20_1 < (t197.length : Int)
       · rw [if_pos c13] at H
         have c13b0 : decide (x20_1 < (t197.length : Int)) = true := decide_eq_true c13
         clear c13
         by_cases c14 : 0 ≤ x20_1
         · rw [if_pos c14] at H
           have c14b0 : decide (0 ≤ x20_1) = true := decide_eq_true c14
           clear c14
           by_cases c15 : x20_1 < (t197.length : Int)
           · rw [if_pos c15] at H
             have c15b0 : decide (x20_1 < (t197.length : Int)) = true := decide_eq_true c15
             clear c15
             simp only [Option.some.injEq, Prod.mk.injEq] at H
             obtain ⟨rfl, rfl⟩ := H
             have p200 : 0 ≤ (x20_1 : Int) := of_decide_eq_true (by with_reducible assumption)
             have q200 : x20_1 < (t197.length : Int) := of_decide_eq_true (by with_reducible assumption)
             obtain ⟨ad200, e200, hx200_0, hx200_1⟩ := at_T30 (Kd.R_reads' HO_18.out).2.2 x20_1 p200 q200
             cases e200
             replace p200 := eq_true p200
             replace q200 := eq_true q200
             go_wp2_with ((((with_reducible refine gate_dst (N := 9) rfl ?_); refine box_event ?hg (N := 9) ?hd (cs := #[.int .i64 0, .int .i64 0]) (t := 30) ?hr ?_; (case hd => rfl); (case hg => rfl); (case hr => (go_simp; done)); intro gb201 hg w16 hbox hb; have n0_ := Aside0.mk (Kd.R_below (Kd.R_elderB (by exact HO_18.out) gb201 (Nat.le_of_eq hg.symm)) hb); have n1_ := Aside0.mk (blk_below (g := gb195) (o := .cells #[.int .i64 a1_0, .int .i64 a1_1] 30 (0, 0)) (by exact BK195.out) hb); have n2_ := Aside0.mk (below_step HB.out hb); have n3_ := Aside0.mk (hbox); have n4_ := Aside0.mk ((by rw [hg]; exact (below_size HB.out) : w.heap.size ≤ gb201)); have n5_ := Aside0.mk ((by rw [hg]; exact (below_size HB.out) : w.heap.size ≤ gb201)); have n6_ := Aside0.mk ((by rw [hg]; exact Nat.ne_of_lt (blk_lt (g := gb195) (o := .cells #[.int .i64 a1_0, .int .i64 a1_1] 30 (0, 0)) (by exact BK195.out)) : gb195 ≠ gb201)); have n7_ := Aside0.mk ((by rw [hg]; exact Nat.ne_of_gt (blk_lt (g := gb195) (o := .cells #[.int .i64 a1_0, .int .i64 a1_1] 30 (0, 0)) (by exact BK195.out)) : gb201 ≠ gb195)); clear HO_18; clear BK195; clear HB; have HO_18 := n0_; have BK195 := n1_; have HB := n2_; have BK201 := n3_; have GW201 := n4_; have GE201 := n5_; have NB195_201 := n6_; have NB201_195 := n7_; clear n0_ n1_ n2_ n3_ n4_ n5_ n6_ n7_; clear hb hbox hg; have hnb17 := NB201_195.out; have hnc17 := NB195_201.out; have hcz18_0 : w16.cell? ⟨gb201, 0, none⟩ = some (.int .i64 0) := (blk_cell BK201.out 0).trans rfl; have hcz18_1 : w16.cell? ⟨gb201, 1, none⟩ = some (.int .i64 0) := (blk_cell BK201.out 1).trans rfl; have hfz18_0 := blk_frozen BK201.out 0; have hfz18_1 := blk_frozen BK201.out 1)))
             go_ret2
             exact ⟨by (rfl), by repeat (((with_reducible first | exact HB.out | refine below_set ?_ GE201.out)))⟩
           · rw [if_neg c15] at H
             exact absurd H (by simp)
         · rw [if_neg c14] at H
           exact absurd H (by simp)
       · rw [if_neg c13] at H
         have c13b0 : decide (x20_1 < (t197.length : Int)) = false := decide_eq_false c13
         clear c13
         simp only [Option.some.injEq, Prod.mk.injEq] at H
         obtain ⟨rfl, rfl⟩ := H
         go_wp2
         go_ret2
         exact ⟨rfl, HB.out⟩
 · replace c5 := Bool.eq_false_iff.mpr c5
   subst c5
   have H1 : (some (0, false)) = some (r1, r2) := by rw [if_neg (show ¬ (false = true) by decide)] at H; exact H
   clear H
   have H := H1
   clear H1
   simp only [Option.some.injEq, Prod.mk.injEq] at H
   obtain ⟨rfl, rfl⟩ := H
   go_enter Tp.func18, Try.ntmps18
   go_wp2_with (first | ((with_reducible refine gate_dst (N := 4) rfl ?_); refine box_event ?hg (N := 4) ?hd (cs := #[.int .i64 a1_0, .int .i64 a1_1]) (t := 30) ?hr ?_; (case hd => rfl); (case hg => rfl); (case hr => (go_simp; done)); intro gb195 hg w19 hbox hb; have n0_ := Aside0.mk (below_step HB.out hb); have n1_ := Aside0.mk (hbox); have n2_ := Aside0.mk ((by rw [hg]; exact (below_size HB.out) : w.heap.size ≤ gb195)); have n3_ := Aside0.mk ((by rw [hg]; exact (below_size HB.out) : w.heap.size ≤ gb195)); clear HB; have HB := n0_; have BK195 := n1_; have GW195 := n2_; have GE195 := n3_; clear n0_ n1_ n2_ n3_; clear hb hbox hg; have hcz20_0 : w19.cell? ⟨gb195, 0, none⟩ = some (.int .i64 a1_0) := (blk_cell BK195.out 0).trans rfl; have hcz20_1 : w19.cell? ⟨gb195, 1, none⟩ = some (.int .i64 a1_1) := (blk_cell BK195.out 1).trans rfl; have hfz20_0 := blk_frozen BK195.out 0; have hfz20_1 := blk_frozen BK195.out 1) | ((with_reducible refine gate_callee (f := 37) rfl ?_); refine goesL_ (some 13) rfl rfl Tp.func37 (by kernel_rfl) rfl #[.slice A0 l0.length c0, .agg #[.int .i64 a1_0, .int .i64 a1_1], .int .i64 a2] rfl (by (try simp only [List.map_toArray, List.map_cons, List.map_nil]); (rfl)) ?_; (with_reducible refine (impl_askedValid.calls k _ _ l0 a1_0 a1_1 a2 false _ ?side1 ?side2 A4.out).mono ?_); (case side1 => exact Kd.C_below HR0.out HB.out); (case side2 => exact HC0.out); rintro e w21 ⟨rfl, hb⟩; refine ⟨_, rfl, ?_⟩; have n0_ := Aside0.mk (blk_below (g := gb195) (o := .cells #[.int .i64 a1_0, .int .i64 a1_1] 30 (0, 0)) (by exact BK195.out) hb); have n1_ := Aside0.mk (below_step HB.out hb); clear BK195; clear HB; have BK195 := n0_; have HB := n1_; clear n0_ n1_; (try clear hb); (try clear hb2); (try clear hk); (try clear hi)))
   go_ret2
   exact ⟨rfl, HB.out⟩
def laws_eqRange.f (a0_0 : Int) (a0_1 : Int) (a1_0 : Int) (a1_1 : Int) : Option (Bool) := if a0_0 = a1_0 then (if a0_1 = a1_1 then (some true) else (some false)) else (some false)
set_option maxHeartbeats 8000000 in
set_option maxRecDepth 100000 in
theorem laws_eqRange.calls (a0_0 : Int) (a0_1 : Int) (a1_0 : Int) (a1_1 : Int) (r : Bool) (w : World) (h : laws_eqRange.f a0_0 a0_1 a1_0 a1_1 = some r) :
   Calls Tp.prog 39 #[.agg #[.int .i64 a0_0, .int .i64 a0_1], .agg #[.int .i64 a1_0, .int .i64 a1_1]] w fun e w' => e = .returned (.bool r) ∧ Below w.heap.size w w' := by
 have hu30 := Tp.underlying30
 have HB := Aside0.mk (Below.refl w.heap.size w)
 have H : (if a0_0 = a1_0 then (if a0_1 = a1_1 then (some true) else (some false)) else (some false)) = some r := h
 clear h
 by_cases c3 : a0_0 = a1_0
 · rw [if_pos c3] at H
   have c3b0 : (a0_0 == a1_0) = true := beq_iff_eq.mpr c3
   have c3b1 : (a0_0 != a1_0) = false := bne_eq_false_iff_eq.mpr c3
   clear c3
   by_cases c4 : a0_1 = a1_1
   · rw [if_pos c4] at H
     have c4b0 : (a0_1 == a1_1) = true := beq_iff_eq.mpr c4
     have c4b1 : (a0_1 != a1_1) = false := bne_eq_false_iff_eq.mpr c4
     clear c4
     obtain rfl := Option.some.inj H
     go_enter Tp.func39, Try.ntmps39
     go_wp2_with (first | ((with_reducible refine gate_dst (N := 2) rfl ?_); refine box_event ?hg (N := 2) ?hd (cs := #[.int .i64 a0_0, .int .i64 a0_1]) (t := 30) ?hr ?_; (case hd => rfl); (case hg => rfl); (case hr => (go_simp; done)); intro gb202 hg w5 hbox hb; have n0_ := Aside0.mk (below_step HB.out hb); have n1_ := Aside0.mk (hbox); have n2_ := Aside0.mk ((by rw [hg]; exact (below_size HB.out) : w.heap.size ≤ gb202)); have n3_ := Aside0.mk ((by rw [hg]; exact (below_size HB.out) : w.heap.size ≤ gb202)); clear HB; have HB := n0_; have BK202 := n1_; have GW202 := n2_; have GE202 := n3_; clear n0_ n1_ n2_ n3_; clear hb hbox hg) | ((with_reducible refine gate_dst (N := 3) rfl ?_); refine box_event ?hg (N := 3) ?hd (cs := #[.int .i64 a1_0, .int .i64 a1_1]) (t := 30) ?hr ?_; (case hd => rfl); (case hg => rfl); (case hr => (go_simp; done)); intro gb203 hg w6 hbox hb; have n0_ := Aside0.mk (blk_below (g := gb202) (o := .cells #[.int .i64 a0_0, .int .i64 a0_1] 30 (0, 0)) (by exact BK202.out) hb); have n1_ := Aside0.mk (below_step HB.out hb); have n2_ := Aside0.mk (hbox); have n3_ := Aside0.mk ((by rw [hg]; exact (below_size HB.out) : w.heap.size ≤ gb203)); have n4_ := Aside0.mk ((by rw [hg]; exact (below_size HB.out) : w.heap.size ≤ gb203)); have n5_ := Aside0.mk ((by rw [hg]; exact Nat.ne_of_lt (blk_lt (g := gb202) (o := .cells #[.int .i64 a0_0, .int .i64 a0_1] 30 (0, 0)) (by exact BK202.out)) : gb202 ≠ gb203)); have n6_ := Aside0.mk ((by rw [hg]; exact Nat.ne_of_gt (blk_lt (g := gb202) (o := .cells #[.int .i64 a0_0, .int .i64 a0_1] 30 (0, 0)) (by exact BK202.out)) : gb203 ≠ gb202)); clear BK202; clear HB; have BK202 := n0_; have HB := n1_; have BK203 := n2_; have GW203 := n3_; have GE203 := n4_; have NB202_203 := n5_; have NB203_202 := n6_; clear n0_ n1_ n2_ n3_ n4_ n5_ n6_; clear hb hbox hg; have hnb7 := NB202_203.out; have hnc7 := NB203_202.out; have hcz8_0 : w6.cell? ⟨gb202, 0, none⟩ = some (.int .i64 a0_0) := (blk_cell BK202.out 0).trans rfl; have hcz8_1 : w6.cell? ⟨gb202, 1, none⟩ = some (.int .i64 a0_1) := (blk_cell BK202.out 1).trans rfl; have hfz8_0 := blk_frozen BK202.out 0; have hfz8_1 := blk_frozen BK202.out 1; have hcz9_0 : w6.cell? ⟨gb203, 0, none⟩ = some (.int .i64 a1_0) := (blk_cell BK203.out 0).trans rfl; have hcz9_1 : w6.cell? ⟨gb203, 1, none⟩ = some (.int .i64 a1_1) := (blk_cell BK203.out 1).trans rfl; have hfz9_0 := blk_frozen BK203.out 0; have hfz9_1 := blk_frozen BK203.out 1))
     go_ret
     exact ⟨rfl, HB.out⟩
   · rw [if_neg c4] at H
     have c4b0 : (a0_1 == a1_1) = false := beq_eq_false_iff_ne.mpr c4
     have c4b1 : (a0_1 != a1_1) = true := bne_iff_ne.mpr c4
     obtain rfl := Option.some.inj H
     go_enter Tp.func39, Try.ntmps39
     go_wp2_with (first | ((with_reducible refine gate_dst (N := 2) rfl ?_); refine box_event ?hg (N := 2) ?hd (cs := #[.int .i64 a0_0, .int .i64 a0_1]) (t := 30) ?hr ?_; (case hd => rfl); (case hg => rfl); (case hr => (go_simp; done)); intro gb202 hg w10 hbox hb; have n0_ := Aside0.mk (below_step HB.out hb); have n1_ := Aside0.mk (hbox); have n2_ := Aside0.mk ((by rw [hg]; exact (below_size HB.out) : w.heap.size ≤ gb202)); have n3_ := Aside0.mk ((by rw [hg]; exact (below_size HB.out) : w.heap.size ≤ gb202)); clear HB; have HB := n0_; have BK202 := n1_; have GW202 := n2_; have GE202 := n3_; clear n0_ n1_ n2_ n3_; clear hb hbox hg) | ((with_reducible refine gate_dst (N := 3) rfl ?_); refine box_event ?hg (N := 3) ?hd (cs := #[.int .i64 a1_0, .int .i64 a1_1]) (t := 30) ?hr ?_; (case hd => rfl); (case hg => rfl); (case hr => (go_simp; done)); intro gb203 hg w11 hbox hb; have n0_ := Aside0.mk (blk_below (g := gb202) (o := .cells #[.int .i64 a0_0, .int .i64 a0_1] 30 (0, 0)) (by exact BK202.out) hb); have n1_ := Aside0.mk (below_step HB.out hb); have n2_ := Aside0.mk (hbox); have n3_ := Aside0.mk ((by rw [hg]; exact (below_size HB.out) : w.heap.size ≤ gb203)); have n4_ := Aside0.mk ((by rw [hg]; exact (below_size HB.out) : w.heap.size ≤ gb203)); have n5_ := Aside0.mk ((by rw [hg]; exact Nat.ne_of_lt (blk_lt (g := gb202) (o := .cells #[.int .i64 a0_0, .int .i64 a0_1] 30 (0, 0)) (by exact BK202.out)) : gb202 ≠ gb203)); have n6_ := Aside0.mk ((by rw [hg]; exact Nat.ne_of_gt (blk_lt (g := gb202) (o := .cells #[.int .i64 a0_0, .int .i64 a0_1] 30 (0, 0)) (by exact BK202.out)) : gb203 ≠ gb202)); clear BK202; clear HB; have BK202 := n0_; have HB := n1_; have BK203 := n2_; have GW203 := n3_; have GE203 := n4_; have NB202_203 := n5_; have NB203_202 := n6_; clear n0_ n1_ n2_ n3_ n4_ n5_ n6_; clear hb hbox hg; have hnb12 := NB202_203.out; have hnc12 := NB203_202.out; have hcz13_0 : w11.cell? ⟨gb202, 0, none⟩ = some (.int .i64 a0_0) := (blk_cell BK202.out 0).trans rfl; have hcz13_1 : w11.cell? ⟨gb202, 1, none⟩ = some (.int .i64 a0_1) := (blk_cell BK202.out 1).trans rfl; have hfz13_0 := blk_frozen BK202.out 0; have hfz13_1 := blk_frozen BK202.out 1; have hcz14_0 : w11.cell? ⟨gb203, 0, none⟩ = some (.int .i64 a1_0) := (blk_cell BK203.out 0).trans rfl; have hcz14_1 : w11.cell? ⟨gb203, 1, none⟩ = some (.int .i64 a1_1) := (blk_cell BK203.out 1).trans rfl; have hfz14_0 := blk_frozen BK203.out 0; have hfz14_1 := blk_frozen BK203.out 1))
     go_ret
     exact ⟨rfl, HB.out⟩
 · rw [if_neg c3] at H
   have c3b0 : (a0_0 == a1_0) = false := beq_eq_false_iff_ne.mpr c3
   have c3b1 : (a0_0 != a1_0) = true := bne_iff_ne.mpr c3
   obtain rfl := Option.some.inj H
   go_enter Tp.func39, Try.ntmps39
   go_wp2_with (first | ((with_reducible refine gate_dst (N := 2) rfl ?_); refine box_event ?hg (N := 2) ?hd (cs := #[.int .i64 a0_0, .int .i64 a0_1]) (t := 30) ?hr ?_; (case hd => rfl); (case hg => rfl); (case hr => (go_simp; done)); intro gb202 hg w15 hbox hb; have n0_ := Aside0.mk (below_step HB.out hb); have n1_ := Aside0.mk (hbox); have n2_ := Aside0.mk ((by rw [hg]; exact (below_size HB.out) : w.heap.size ≤ gb202)); have n3_ := Aside0.mk ((by rw [hg]; exact (below_size HB.out) : w.heap.size ≤ gb202)); clear HB; have HB := n0_; have BK202 := n1_; have GW202 := n2_; have GE202 := n3_; clear n0_ n1_ n2_ n3_; clear hb hbox hg) | ((with_reducible refine gate_dst (N := 3) rfl ?_); refine box_event ?hg (N := 3) ?hd (cs := #[.int .i64 a1_0, .int .i64 a1_1]) (t := 30) ?hr ?_; (case hd => rfl); (case hg => rfl); (case hr => (go_simp; done)); intro gb203 hg w16 hbox hb; have n0_ := Aside0.mk (blk_below (g := gb202) (o := .cells #[.int .i64 a0_0, .int .i64 a0_1] 30 (0, 0)) (by exact BK202.out) hb); have n1_ := Aside0.mk (below_step HB.out hb); have n2_ := Aside0.mk (hbox); have n3_ := Aside0.mk ((by rw [hg]; exact (below_size HB.out) : w.heap.size ≤ gb203)); have n4_ := Aside0.mk ((by rw [hg]; exact (below_size HB.out) : w.heap.size ≤ gb203)); have n5_ := Aside0.mk ((by rw [hg]; exact Nat.ne_of_lt (blk_lt (g := gb202) (o := .cells #[.int .i64 a0_0, .int .i64 a0_1] 30 (0, 0)) (by exact BK202.out)) : gb202 ≠ gb203)); have n6_ := Aside0.mk ((by rw [hg]; exact Nat.ne_of_gt (blk_lt (g := gb202) (o := .cells #[.int .i64 a0_0, .int .i64 a0_1] 30 (0, 0)) (by exact BK202.out)) : gb203 ≠ gb202)); clear BK202; clear HB; have BK202 := n0_; have HB := n1_; have BK203 := n2_; have GW203 := n3_; have GE203 := n4_; have NB202_203 := n5_; have NB203_202 := n6_; clear n0_ n1_ n2_ n3_ n4_ n5_ n6_; clear hb hbox hg; have hnb17 := NB202_203.out; have hnc17 := NB203_202.out; have hcz18_0 : w16.cell? ⟨gb202, 0, none⟩ = some (.int .i64 a0_0) := (blk_cell BK202.out 0).trans rfl; have hcz18_1 : w16.cell? ⟨gb202, 1, none⟩ = some (.int .i64 a0_1) := (blk_cell BK202.out 1).trans rfl; have hfz18_0 := blk_frozen BK202.out 0; have hfz18_1 := blk_frozen BK202.out 1; have hcz19_0 : w16.cell? ⟨gb203, 0, none⟩ = some (.int .i64 a1_0) := (blk_cell BK203.out 0).trans rfl; have hcz19_1 : w16.cell? ⟨gb203, 1, none⟩ = some (.int .i64 a1_1) := (blk_cell BK203.out 1).trans rfl; have hfz19_0 := blk_frozen BK203.out 0; have hfz19_1 := blk_frozen BK203.out 1))
   go_ret
   exact ⟨rfl, HB.out⟩
end Go.Proofs.Ytcoppnbjpncdcaa.PAll
end
section
namespace Go.Proofs.Ytcoppnbjpncdcaa.PAll
open Go.RowKit Go.Proofs.YtcoppnbjpncdcaaW.PrintWords Go.Proofs.YtcoppnbjpncdcaaW.PrintLast Go.Proofs.YtcoppnbjpncdcaaW.PrintMore
set_option linter.unusedVariables false
set_option linter.unusedSimpArgs false
abbrev q8_b0 : Array Bool := #[false, false, false, false, false, false, false, false, false, false]
abbrev q8_b1 : Array Bool := #[true, false, false, false, false, false, false, false, false, false]
abbrev q8_b2 : Array Bool := #[true, true, false, false, false, false, false, false, false, false]
abbrev q8_b3 : Array Bool := #[true, true, true, false, false, false, false, false, false, false]
abbrev q8_b4 : Array Bool := #[true, true, true, false, true, false, false, false, false, false]
abbrev q8_b5 : Array Bool := #[true, true, true, false, true, true, false, false, false, false]
abbrev q8_b6 : Array Bool := #[true, true, true, false, true, true, true, false, false, false]
abbrev q8_b7 : Array Bool := #[true, true, true, true, true, true, true, false, false, false]
abbrev q8_b8 : Array Bool := #[true, true, true, true, true, true, true, true, false, false]
abbrev q8_b9 : Array Bool := #[true, true, true, true, true, true, true, true, true, false]
abbrev q8_b10 : Array Bool := #[true, true, true, true, true, true, true, true, true, true]
abbrev q8_b11 : Array Bool := #[false, false, false, false, false, false, false, false, false, false, false]
abbrev q8_b12 : Array Bool := #[true, false, false, false, false, false, false, false, false, false, false]
abbrev q8_b13 : Array Bool := #[true, false, false, false, true, false, false, false, false, false, false]
abbrev q8_b14 : Array Bool := #[true, false, true, false, true, false, false, false, false, false, false]
abbrev q8_b15 : Array Bool := #[true, true, true, false, true, false, false, false, false, false, false]
abbrev q8_b16 : Array Bool := #[true, true, true, true, true, false, false, false, false, false, false]
abbrev q8_b17 : Array Bool := #[true, true, true, true, true, true, false, false, false, false, false]
abbrev q8_b18 : Array Bool := #[true, true, true, true, true, true, true, false, false, false, false]
abbrev q8_b19 : Array Bool := #[true, true, true, true, true, true, true, true, false, false, false]
abbrev q8_b20 : Array Bool := #[true, true, true, true, true, true, true, true, true, false, false]
abbrev q8_b21 : Array Bool := #[true, true, true, true, true, true, true, true, true, true, false]
abbrev q8_b22 : Array Bool := #[true, true, true, true, true, true, true, true, true, true, true]
def laws_eqRangeS.l0 : Nat → List (S30) → List (S30) → Int → Option (Bool)
 | 0, _, _, _ => none
 | k + 1, x0, x1, x5 => if x5 < (x0.length : Int) then (if 0 ≤ x5 then (if x5 < (x1.length : Int) then ((laws_eqRange.f ((rd_T30 x0 x5).f0) ((rd_T30 x0 x5).f1) ((rd_T30 x1 x5).f0) ((rd_T30 x1 x5).f1)).bind fun t206 => (if t206 = true then (laws_eqRangeS.l0 k x0 x1 (wrap64 (x5 + 1))) else (some false))) else (none)) else (none)) else (some true)
def laws_eqRangeS.f (k : Nat) (l0 : List (S30)) (l1 : List (S30)) : Option (Bool) := if (l0.length : Int) = (l1.length : Int) then (laws_eqRangeS.l0 k l0 l1 0) else (some false)
def laws_eqRangeS.T6 : Bool × List (List Nat × List Nat) := (true, [([], []), ([], []), ([0, 1], [0, 1]), ([2], [2]), ([], []), ([], []), ([4, 5], [4, 5]), ([6], [6]), ([3, 7], [3, 7]), ([8], [8])])
def laws_eqRangeS.B6 : List Nat := [0, 0, 3, 7, 0, 0, 48, 112, 255, 511]
theorem laws_eqRangeS.tab6 : rtab .any (opsOf Try.f19 6) = laws_eqRangeS.T6 := by kernel_rfl
theorem laws_eqRangeS.bits6 : waitsOk laws_eqRangeS.T6.2 laws_eqRangeS.B6 = true := by kernel_rfl
set_option maxHeartbeats 8000000 in
set_option maxRecDepth 100000 in
theorem laws_eqRangeS.calls (k : Nat) (A0 : Option Addr) (c0 : Nat) (l0 : List (S30)) (A1 : Option Addr) (c1 : Nat) (l1 : List (S30)) (r : Bool) (w : World) (hr0 : Kd.C k30 w A0 l0.length l0) (hc0 : l0.length ≤ c0) (hr1 : Kd.C k30 w A1 l1.length l1) (hc1 : l1.length ≤ c1) (h : laws_eqRangeS.f k l0 l1 = some r) :
   Calls Tp.prog 19 #[.slice A0 l0.length c0, .slice A1 l1.length c1] w fun e w' => e = .returned (.bool r) ∧ Below w.heap.size w w' := by
 have hu30 := Tp.underlying30
 have HR0 := Aside0.mk hr0
 have HC0 := Aside0.mk hc0
 clear hr0 hc0
 have HR1 := Aside0.mk hr1
 have HC1 := Aside0.mk hc1
 clear hr1 hc1
 have HB := Aside0.mk (Below.refl w.heap.size w)
 have H : (if (l0.length : Int) = (l1.length : Int) then (laws_eqRangeS.l0 k l0 l1 0) else (some false)) = some r := h
 clear h
 by_cases c3 : (l0.length : Int) = (l1.length : Int)
 · rw [if_pos c3] at H
   have c3b0 : ((l0.length : Int) == (l1.length : Int)) = true := beq_iff_eq.mpr c3
   have c3b1 : ((l0.length : Int) != (l1.length : Int)) = false := bne_eq_false_iff_eq.mpr c3
   have c3b2 : (l0.length == l1.length) = true := by ((simp at c3 ⊢; omega))
   clear c3
   have H' := Aside0.mk H
   clear H
   go_enter Tp.func19, Try.ntmps19
   go_wp2
   go_loopg [5] k (fun kq v5 w' => ∃ (x5_1 : Int), v5 = .int .i64 x5_1 ∧ Aside0 (laws_eqRangeS.l0 kq l0 l1 x5_1 = some r) ∧ Aside0 (kq ≤ k) ∧ Aside0 (Below w.heap.size w w'))
   case atStart => exact ⟨(0), (by (rfl)), H', ⟨Nat.le_refl _⟩, ⟨HB.out⟩⟩
   case round =>
     clear H'
     try clear c1
     try clear p2
     try clear c3
     try clear c3b0
     try clear c3b1
     try clear c3b2
     obtain ⟨x5_1, rfl, HA, HK1, HB⟩ := hrel
     cases gk with
     | zero => exact absurd HA.out (by simp [laws_eqRangeS.l0])
     | succ k1 =>
       have H := HA.out
       clear HA
       simp only [laws_eqRangeS.l0] at H
       by_cases c4 : x5_1 < (l0.length : Int)
       · rw [if_pos c4] at H
         have c4b0 : decide (x5_1 < (l0.length : Int)) = true := decide_eq_true c4
         clear c4
         by_cases c5 : 0 ≤ x5_1
         · rw [if_pos c5] at H
           have c5b0 : decide (0 ≤ x5_1) = true := decide_eq_true c5
           clear c5
           by_cases c6 : x5_1 < (l1.length : Int)
           · rw [if_pos c6] at H
             have c6b0 : decide (x5_1 < (l1.length : Int)) = true := decide_eq_true c6
             clear c6
             replace H := Option.bind_eq_some_iff.mp H
             obtain ⟨t206, A70, H⟩ := H
             replace H : (if t206 = true then (laws_eqRangeS.l0 k1 l0 l1 (wrap64 (x5_1 + 1))) else (some false)) = some r := H
             have A7 := Aside0.mk A70
             clear A70
             by_cases c8 : t206 = true
             · subst c8
               have H1 : (laws_eqRangeS.l0 k1 l0 l1 (wrap64 (x5_1 + 1))) = some r := by rw [if_pos rfl] at H; exact H
               clear H
               have H := H1
               clear H1
               have H' := Aside0.mk H
               clear H
               try go_wp2
               have n0_ := Aside0.mk (below_drew1 HB.out)
               clear HB
               have HB := n0_
               clear n0_
               have p204 : 0 ≤ (x5_1 : Int) := of_decide_eq_true (by with_reducible assumption)
               have q204 : x5_1 < (l0.length : Int) := of_decide_eq_true (by with_reducible assumption)
               obtain ⟨ad204, e204, hx204_0, hx204_1⟩ := at_T30 HR0.out x5_1 p204 q204
               have hw204_1 := hx204_1
               have hw204_0 := hx204_0
               cases e204
               replace hx204_0 := (HB.out.cell (World.block_lt_of_cell? w _ hx204_0)).trans hx204_0
               replace hx204_1 := (HB.out.cell (World.block_lt_of_cell? w _ hx204_1)).trans hx204_1
               replace p204 := eq_true p204
               replace q204 := eq_true q204
               have p205 : 0 ≤ (x5_1 : Int) := of_decide_eq_true (by with_reducible assumption)
               have q205 : x5_1 < (l1.length : Int) := of_decide_eq_true (by with_reducible assumption)
               obtain ⟨ad205, e205, hx205_0, hx205_1⟩ := at_T30 HR1.out x5_1 p205 q205
               have hw205_1 := hx205_1
               have hw205_0 := hx205_0
               cases e205
               replace hx205_0 := (HB.out.cell (World.block_lt_of_cell? w _ hx205_0)).trans hx205_0
               replace hx205_1 := (HB.out.cell (World.block_lt_of_cell? w _ hx205_1)).trans hx205_1
               replace p205 := eq_true p205
               replace q205 := eq_true q205
               refine start_ (n := 10) (S := fun w' => w'.cell? (ad204.add ((x5_1).toNat * 2)) = some (.int .i64 ((rd_T30 l0 x5_1).f0)) ∧ w'.cell? ⟨(ad204.add ((x5_1).toNat * 2)).block, (ad204.add ((x5_1).toNat * 2)).off + 1, none⟩ = some (.int .i64 ((rd_T30 l0 x5_1).f1)) ∧ w'.cell? (ad205.add ((x5_1).toNat * 2)) = some (.int .i64 ((rd_T30 l1 x5_1).f0)) ∧ w'.cell? ⟨(ad205.add ((x5_1).toNat * 2)).block, (ad205.add ((x5_1).toNat * 2)).off + 1, none⟩ = some (.int .i64 ((rd_T30 l1 x5_1).f1))) (ds := []) q8_b0 (by kernel_rfl) rfl rfl ⟨((HB.out.cell (World.block_lt_of_cell? w _ hw204_0)).trans hw204_0), ((HB.out.cell (World.block_lt_of_cell? w _ hw204_1)).trans hw204_1), ((HB.out.cell (World.block_lt_of_cell? w _ hw205_0)).trans hw205_0), ((HB.out.cell (World.block_lt_of_cell? w _ hw205_1)).trans hw205_1)⟩ (fun hHeld => ?_); refine with_tabW laws_eqRangeS.tab6 laws_eqRangeS.bits6 (fun HT_ HW_ => ?_)
               generalize wr.drew = w9 at HB hx204_0 hx204_1 hx205_0 hx205_1 hHeld ⊢
               refine pure_ (i := 0) (N := some 17) (v := ?_) (a' := ?_) q8_b1 rfl rfl (any_of HT_.out (by kernel_rfl)) (fun _ _ _ h => h) (Or.inl ⟨by rfl, ?_⟩) ?_ ?_
               rotate_left
               · intro w'
                 go_simp
                 with_reducible rfl
               rotate_left
               · simp only [Act.put, zs]
                 rfl
               refine pure_ (i := 1) (N := some 18) (v := ?_) (a' := ?_) q8_b2 rfl rfl (any_of HT_.out (by kernel_rfl)) (fun _ _ _ h => h) (Or.inl ⟨by rfl, ?_⟩) ?_ ?_
               rotate_left
               · intro w'
                 go_simp
                 with_reducible rfl
               rotate_left
               · simp only [Act.put, zs]
                 rfl
               refine pure_ (i := 2) (N := some 19) (v := ?_) (a' := ?_) q8_b3 rfl rfl (any_of HT_.out (by kernel_rfl)) (fun _ _ _ h => h) (Or.inl ⟨by rfl, ?_⟩) ?_ ?_
               rotate_left
               · intro w'
                 go_simp
                 with_reducible rfl
               rotate_left
               · simp only [Act.put, zs]
                 rfl
               refine pure_ (i := 4) (N := some 21) (v := ?_) (a' := ?_) q8_b4 rfl rfl (any_of HT_.out (by kernel_rfl)) (fun _ _ _ h => h) (Or.inl ⟨by rfl, ?_⟩) ?_ ?_
               rotate_left
               · intro w'
                 go_simp
                 with_reducible rfl
               rotate_left
               · simp only [Act.put, zs]
                 rfl
               refine pure_ (i := 5) (N := some 22) (v := ?_) (a' := ?_) q8_b5 rfl rfl (any_of HT_.out (by kernel_rfl)) (fun _ _ _ h => h) (Or.inl ⟨by rfl, ?_⟩) ?_ ?_
               rotate_left
               · intro w'
                 go_simp
                 with_reducible rfl
               rotate_left
               · simp only [Act.put, zs]
                 rfl
               refine pure_ (i := 6) (N := some 23) (v := ?_) (a' := ?_) q8_b6 rfl rfl (any_of HT_.out (by kernel_rfl)) (fun _ _ _ h => h) (Or.inl ⟨by rfl, ?_⟩) ?_ ?_
               rotate_left
               · intro w'
                 go_simp
                 with_reducible rfl
               rotate_left
               · simp only [Act.put, zs]
                 rfl
               refine take_ (i := 3) (N := some 20) (v := ?_) (a' := ?_) q8_b7 rfl rfl (take_ofW HT_.out HW_.out (by kernel_rfl)) (fun _ _ _ h => h) (Or.inl ⟨by rfl, ?_⟩) hHeld ?_ ?_
               rotate_left
               · rintro w' ⟨s0, s1, s2, s3⟩
                 go_simp
                 with_reducible rfl
               rotate_left
               · simp only [Act.put, zs]
                 rfl
               refine take_ (i := 7) (N := some 24) (v := ?_) (a' := ?_) q8_b8 rfl rfl (take_ofW HT_.out HW_.out (by kernel_rfl)) (fun _ _ _ h => h) (Or.inl ⟨by rfl, ?_⟩) hHeld ?_ ?_
               rotate_left
               · rintro w' ⟨s0, s1, s2, s3⟩
                 go_simp
                 with_reducible rfl
               rotate_left
               · simp only [Act.put, zs]
                 rfl
               refine one_ (i := 8) (N := some 25) q8_b9 rfl rfl (one_of HT_.out (by kernel_rfl)) (by decide) (fun K hK => ?_)
               refine goes_ Tp.func39 (by kernel_rfl) rfl #[.agg #[.int .i64 ((rd_T30 l0 x5_1).f0), .int .i64 ((rd_T30 l0 x5_1).f1)], .agg #[.int .i64 ((rd_T30 l1 x5_1).f0), .int .i64 ((rd_T30 l1 x5_1).f1)]] (by rfl) rfl rfl (by (try simp only [List.map_toArray, List.map_cons, List.map_nil]); (rfl)) ?_
               with_reducible refine (laws_eqRange.calls ((rd_T30 l0 x5_1).f0) ((rd_T30 l0 x5_1).f1) ((rd_T30 l1 x5_1).f0) ((rd_T30 l1 x5_1).f1) true _ A7.out).mono ?_
               rintro e w10 ⟨rfl, hb⟩
               refine ⟨_, rfl, ?_⟩
               have n0_ := Aside0.mk (below_step HB.out hb)
               clear HB
               have HB := n0_
               clear n0_
               (try clear hb)
               (try clear hb2)
               (try clear hk)
               (try clear hi)
               refine hK.out _ _ ⟨((HB.out.cell (World.block_lt_of_cell? w _ hw204_0)).trans hw204_0), ((HB.out.cell (World.block_lt_of_cell? w _ hw204_1)).trans hw204_1), ((HB.out.cell (World.block_lt_of_cell? w _ hw205_0)).trans hw205_0), ((HB.out.cell (World.block_lt_of_cell? w _ hw205_1)).trans hw205_1)⟩ (fun hHeld => ?_)
               clear hK K
               refine norm_ (a' := ?_) ?_ ?_
               rotate_left
               · show Act.put _ (some 25) _ = _
                 simp only [Act.put, zs]
                 rfl
               refine pure_ (i := 9) (N := some 26) (v := ?_) (a' := ?_) q8_b10 rfl rfl (any_of HT_.out (by kernel_rfl)) (fun _ _ _ h => h) (Or.inl ⟨by rfl, ?_⟩) ?_ ?_
               rotate_left
               · intro w'
                 go_simp
                 with_reducible rfl
               rotate_left
               · simp only [Act.put, zs]
                 rfl
               refine done_ (done_of HT_.out (by kernel_rfl)) ?_
               try go_wp2
               go_roundg k1
               case measure => have := HK1.out; omega
               case rel => exact ⟨(wrap64 (x5_1 + 1)), (by (rfl)), H', ⟨by have := HK1.out; omega⟩, ⟨HB.out⟩⟩
             · replace c8 := Bool.eq_false_iff.mpr c8
               subst c8
               have H1 : (some false) = some r := by rw [if_neg (show ¬ (false = true) by decide)] at H; exact H
               clear H
               have H := H1
               clear H1
               obtain rfl := Option.some.inj H
               try go_wp2
               have n0_ := Aside0.mk (below_drew1 HB.out)
               clear HB
               have HB := n0_
               clear n0_
               have p204 : 0 ≤ (x5_1 : Int) := of_decide_eq_true (by with_reducible assumption)
               have q204 : x5_1 < (l0.length : Int) := of_decide_eq_true (by with_reducible assumption)
               obtain ⟨ad204, e204, hx204_0, hx204_1⟩ := at_T30 HR0.out x5_1 p204 q204
               have hw204_1 := hx204_1
               have hw204_0 := hx204_0
               cases e204
               replace hx204_0 := (HB.out.cell (World.block_lt_of_cell? w _ hx204_0)).trans hx204_0
               replace hx204_1 := (HB.out.cell (World.block_lt_of_cell? w _ hx204_1)).trans hx204_1
               replace p204 := eq_true p204
               replace q204 := eq_true q204
               have p205 : 0 ≤ (x5_1 : Int) := of_decide_eq_true (by with_reducible assumption)
               have q205 : x5_1 < (l1.length : Int) := of_decide_eq_true (by with_reducible assumption)
               obtain ⟨ad205, e205, hx205_0, hx205_1⟩ := at_T30 HR1.out x5_1 p205 q205
               have hw205_1 := hx205_1
               have hw205_0 := hx205_0
               cases e205
               replace hx205_0 := (HB.out.cell (World.block_lt_of_cell? w _ hx205_0)).trans hx205_0
               replace hx205_1 := (HB.out.cell (World.block_lt_of_cell? w _ hx205_1)).trans hx205_1
               replace p205 := eq_true p205
               replace q205 := eq_true q205
               refine start_ (n := 10) (S := fun w' => w'.cell? (ad204.add ((x5_1).toNat * 2)) = some (.int .i64 ((rd_T30 l0 x5_1).f0)) ∧ w'.cell? ⟨(ad204.add ((x5_1).toNat * 2)).block, (ad204.add ((x5_1).toNat * 2)).off + 1, none⟩ = some (.int .i64 ((rd_T30 l0 x5_1).f1)) ∧ w'.cell? (ad205.add ((x5_1).toNat * 2)) = some (.int .i64 ((rd_T30 l1 x5_1).f0)) ∧ w'.cell? ⟨(ad205.add ((x5_1).toNat * 2)).block, (ad205.add ((x5_1).toNat * 2)).off + 1, none⟩ = some (.int .i64 ((rd_T30 l1 x5_1).f1))) (ds := []) q8_b0 (by kernel_rfl) rfl rfl ⟨((HB.out.cell (World.block_lt_of_cell? w _ hw204_0)).trans hw204_0), ((HB.out.cell (World.block_lt_of_cell? w _ hw204_1)).trans hw204_1), ((HB.out.cell (World.block_lt_of_cell? w _ hw205_0)).trans hw205_0), ((HB.out.cell (World.block_lt_of_cell? w _ hw205_1)).trans hw205_1)⟩ (fun hHeld => ?_); refine with_tabW laws_eqRangeS.tab6 laws_eqRangeS.bits6 (fun HT_ HW_ => ?_)
               generalize wr.drew = w11 at HB hx204_0 hx204_1 hx205_0 hx205_1 hHeld ⊢
               refine pure_ (i := 0) (N := some 17) (v := ?_) (a' := ?_) q8_b1 rfl rfl (any_of HT_.out (by kernel_rfl)) (fun _ _ _ h => h) (Or.inl ⟨by rfl, ?_⟩) ?_ ?_
               rotate_left
               · intro w'
                 go_simp
                 with_reducible rfl
               rotate_left
               · simp only [Act.put, zs]
                 rfl
               refine pure_ (i := 1) (N := some 18) (v := ?_) (a' := ?_) q8_b2 rfl rfl (any_of HT_.out (by kernel_rfl)) (fun _ _ _ h => h) (Or.inl ⟨by rfl, ?_⟩) ?_ ?_
               rotate_left
               · intro w'
                 go_simp
                 with_reducible rfl
               rotate_left
               · simp only [Act.put, zs]
                 rfl
               refine pure_ (i := 2) (N := some 19) (v := ?_) (a' := ?_) q8_b3 rfl rfl (any_of HT_.out (by kernel_rfl)) (fun _ _ _ h => h) (Or.inl ⟨by rfl, ?_⟩) ?_ ?_
               rotate_left
               · intro w'
                 go_simp
                 with_reducible rfl
               rotate_left
               · simp only [Act.put, zs]
                 rfl
               refine pure_ (i := 4) (N := some 21) (v := ?_) (a' := ?_) q8_b4 rfl rfl (any_of HT_.out (by kernel_rfl)) (fun _ _ _ h => h) (Or.inl ⟨by rfl, ?_⟩) ?_ ?_
               rotate_left
               · intro w'
                 go_simp
                 with_reducible rfl
               rotate_left
               · simp only [Act.put, zs]
                 rfl
               refine pure_ (i := 5) (N := some 22) (v := ?_) (a' := ?_) q8_b5 rfl rfl (any_of HT_.out (by kernel_rfl)) (fun _ _ _ h => h) (Or.inl ⟨by rfl, ?_⟩) ?_ ?_
               rotate_left
               · intro w'
                 go_simp
                 with_reducible rfl
               rotate_left
               · simp only [Act.put, zs]
                 rfl
               refine pure_ (i := 6) (N := some 23) (v := ?_) (a' := ?_) q8_b6 rfl rfl (any_of HT_.out (by kernel_rfl)) (fun _ _ _ h => h) (Or.inl ⟨by rfl, ?_⟩) ?_ ?_
               rotate_left
               · intro w'
                 go_simp
                 with_reducible rfl
               rotate_left
               · simp only [Act.put, zs]
                 rfl
               refine take_ (i := 3) (N := some 20) (v := ?_) (a' := ?_) q8_b7 rfl rfl (take_ofW HT_.out HW_.out (by kernel_rfl)) (fun _ _ _ h => h) (Or.inl ⟨by rfl, ?_⟩) hHeld ?_ ?_
               rotate_left
               · rintro w' ⟨s0, s1, s2, s3⟩
                 go_simp
                 with_reducible rfl
               rotate_left
               · simp only [Act.put, zs]
                 rfl
               refine take_ (i := 7) (N := some 24) (v := ?_) (a' := ?_) q8_b8 rfl rfl (take_ofW HT_.out HW_.out (by kernel_rfl)) (fun _ _ _ h => h) (Or.inl ⟨by rfl, ?_⟩) hHeld ?_ ?_
               rotate_left
               · rintro w' ⟨s0, s1, s2, s3⟩
                 go_simp
                 with_reducible rfl
               rotate_left
               · simp only [Act.put, zs]
                 rfl
               refine one_ (i := 8) (N := some 25) q8_b9 rfl rfl (one_of HT_.out (by kernel_rfl)) (by decide) (fun K hK => ?_)
               refine goes_ Tp.func39 (by kernel_rfl) rfl #[.agg #[.int .i64 ((rd_T30 l0 x5_1).f0), .int .i64 ((rd_T30 l0 x5_1).f1)], .agg #[.int .i64 ((rd_T30 l1 x5_1).f0), .int .i64 ((rd_T30 l1 x5_1).f1)]] (by rfl) rfl rfl (by (try simp only [List.map_toArray, List.map_cons, List.map_nil]); (rfl)) ?_
               with_reducible refine (laws_eqRange.calls ((rd_T30 l0 x5_1).f0) ((rd_T30 l0 x5_1).f1) ((rd_T30 l1 x5_1).f0) ((rd_T30 l1 x5_1).f1) false _ A7.out).mono ?_
               rintro e w12 ⟨rfl, hb⟩
               refine ⟨_, rfl, ?_⟩
               have n0_ := Aside0.mk (below_step HB.out hb)
               clear HB
               have HB := n0_
               clear n0_
               (try clear hb)
               (try clear hb2)
               (try clear hk)
               (try clear hi)
               refine hK.out _ _ ⟨((HB.out.cell (World.block_lt_of_cell? w _ hw204_0)).trans hw204_0), ((HB.out.cell (World.block_lt_of_cell? w _ hw204_1)).trans hw204_1), ((HB.out.cell (World.block_lt_of_cell? w _ hw205_0)).trans hw205_0), ((HB.out.cell (World.block_lt_of_cell? w _ hw205_1)).trans hw205_1)⟩ (fun hHeld => ?_)
               clear hK K
               refine norm_ (a' := ?_) ?_ ?_
               rotate_left
               · show Act.put _ (some 25) _ = _
                 simp only [Act.put, zs]
                 rfl
               refine pure_ (i := 9) (N := some 26) (v := ?_) (a' := ?_) q8_b10 rfl rfl (any_of HT_.out (by kernel_rfl)) (fun _ _ _ h => h) (Or.inl ⟨by rfl, ?_⟩) ?_ ?_
               rotate_left
               · intro w'
                 go_simp
                 with_reducible rfl
               rotate_left
               · simp only [Act.put, zs]
                 rfl
               refine done_ (done_of HT_.out (by kernel_rfl)) ?_
               try go_wp2
               go_ret
               exact ⟨rfl, HB.out⟩
           · rw [if_neg c6] at H
             exact absurd H (by simp)
         · rw [if_neg c5] at H
           exact absurd H (by simp)
       · rw [if_neg c4] at H
         have c4b0 : decide (x5_1 < (l0.length : Int)) = false := decide_eq_false c4
         clear c4
         obtain rfl := Option.some.inj H
         go_wp2
         go_ret
         exact ⟨rfl, HB.out⟩
 · rw [if_neg c3] at H
   have c3b0 : ((l0.length : Int) == (l1.length : Int)) = false := beq_eq_false_iff_ne.mpr c3
   have c3b1 : ((l0.length : Int) != (l1.length : Int)) = true := bne_iff_ne.mpr c3
   have c3b2 : (l0.length == l1.length) = false := by ((simp at c3 ⊢; omega))
   obtain rfl := Option.some.inj H
   go_enter Tp.func19, Try.ntmps19
   go_wp2
   go_ret
   exact ⟨rfl, HB.out⟩
def laws_FnExactFreeFirst.j0 : Nat → List (S24) → List (S30) → Bool → Option (Bool)
 | 0, _, _, _ => none
 | k + 1, x0, x10, x44 => if x44 = true then (some false) else ((laws_toRangeS.f k x0).bind fun t223 => ((laws_eqRangeS.f k x10 t223).bind fun t226 => (if t226 = true then (some true) else (some false))))
def laws_FnExactFreeFirst.f (k : Nat) (l0 : List (S24)) (a1_0 : Int) (a1_1 : Int) (a2 : Int) : Option (Bool) := (laws_szRangeS.f l0 1048576).bind fun t208 => (if t208 < 0 then (some true) else ((laws_toRangeS.f k l0).bind fun t209 => ((laws_toRange.f a1_0 a1_1).bind fun bt212 => ((spec_FreeFirst.f k t209 bt212.1 bt212.2 a2).bind fun bt214 => ((laws_toRangeS.f k l0).bind fun t216 => ((laws_toRange.f a1_0 a1_1).bind fun bt219 => ((impl_FreeFirst.f k t216 bt219.1 bt219.2 a2).bind fun bt221 => (if bt221.1 = bt214.1 then (laws_FnExactFreeFirst.j0 k l0 t216 (bt221.2 != bt214.2)) else (laws_FnExactFreeFirst.j0 k l0 t216 true)))))))))
def laws_FnExactFreeFirst.T5 : Bool × List (List Nat × List Nat) := (true, [([], []), ([0], [0]), ([], []), ([2, 1], [2]), ([], []), ([1, 3, 4, 3], [1, 3, 4]), ([5], [5]), ([6], [6]), ([6], [6]), ([7, 5, 0, 1, 2, 3, 4, 5, 6, 7], [7]), ([8, 9, 0, 1, 2, 3, 4, 5, 6, 7, 8, 9], [8])])
def laws_FnExactFreeFirst.B5 : List Nat := [0, 1, 0, 7, 0, 31, 63, 127, 127, 255, 1023]
theorem laws_FnExactFreeFirst.tab5 : rtab .any (opsOf Try.f3 5) = laws_FnExactFreeFirst.T5 := by kernel_rfl
theorem laws_FnExactFreeFirst.bits5 : waitsOk laws_FnExactFreeFirst.T5.2 laws_FnExactFreeFirst.B5 = true := by kernel_rfl
set_option maxHeartbeats 8000000 in
set_option maxRecDepth 100000 in
theorem laws_FnExactFreeFirst.calls (k : Nat) (A0 : Option Addr) (c0 : Nat) (l0 : List (S24)) (a1_0 : Int) (a1_1 : Int) (a2 : Int) (r : Bool) (w : World) (hr0 : Kd.C k24 w A0 l0.length l0) (hc0 : l0.length ≤ c0) (h : laws_FnExactFreeFirst.f k l0 a1_0 a1_1 a2 = some r) :
   Calls Tp.prog 3 #[.slice A0 l0.length c0, .agg #[.int .i64 a1_0, .int .i64 a1_1], .int .i64 a2] w fun e w' => e = .returned (.bool r) ∧ Below w.heap.size w w' := by
 have hu24 := Tp.underlying24
 have HR0 := Aside0.mk hr0
 have HC0 := Aside0.mk hc0
 clear hr0 hc0
 have HB := Aside0.mk (Below.refl w.heap.size w)
 have H : ((laws_szRangeS.f l0 1048576).bind fun t208 => (if t208 < 0 then (some true) else ((laws_toRangeS.f k l0).bind fun t209 => ((laws_toRange.f a1_0 a1_1).bind fun bt212 => ((spec_FreeFirst.f k t209 bt212.1 bt212.2 a2).bind fun bt214 => ((laws_toRangeS.f k l0).bind fun t216 => ((laws_toRange.f a1_0 a1_1).bind fun bt219 => ((impl_FreeFirst.f k t216 bt219.1 bt219.2 a2).bind fun bt221 => (if bt221.1 = bt214.1 then (laws_FnExactFreeFirst.j0 k l0 t216 (bt221.2 != bt214.2)) else (laws_FnExactFreeFirst.j0 k l0 t216 true)))))))))) = some r := h
 clear h
 replace H := Option.bind_eq_some_iff.mp H
 obtain ⟨t208, A40, H⟩ := H
 replace H : (if t208 < 0 then (some true) else ((laws_toRangeS.f k l0).bind fun t209 => ((laws_toRange.f a1_0 a1_1).bind fun bt212 => ((spec_FreeFirst.f k t209 bt212.1 bt212.2 a2).bind fun bt214 => ((laws_toRangeS.f k l0).bind fun t216 => ((laws_toRange.f a1_0 a1_1).bind fun bt219 => ((impl_FreeFirst.f k t216 bt219.1 bt219.2 a2).bind fun bt221 => (if bt221.1 = bt214.1 then (laws_FnExactFreeFirst.j0 k l0 t216 (bt221.2 != bt214.2)) else (laws_FnExactFreeFirst.j0 k l0 t216 true))))))))) = some r := H
 have A4 := Aside0.mk A40
 clear A40
 by_cases c5 : t208 < 0
 · rw [if_pos c5] at H
   have c5b0 : decide (t208 < 0) = true := decide_eq_true c5
   clear c5
   obtain rfl := Option.some.inj H
   go_enter Tp.func3, Try.ntmps3
   go_wp2_with (first | ((with_reducible refine gate_dst (N := 4) rfl ?_); refine box_event ?hg (N := 4) ?hd (cs := #[.int .i64 a1_0, .int .i64 a1_1]) (t := 24) ?hr ?_; (case hd => rfl); (case hg => rfl); (case hr => (go_simp; done)); intro gb207 hg w6 hbox hb; have n0_ := Aside0.mk (below_step HB.out hb); have n1_ := Aside0.mk (hbox); have n2_ := Aside0.mk ((by rw [hg]; exact (below_size HB.out) : w.heap.size ≤ gb207)); have n3_ := Aside0.mk ((by rw [hg]; exact (below_size HB.out) : w.heap.size ≤ gb207)); clear HB; have HB := n0_; have BK207 := n1_; have GW207 := n2_; have GE207 := n3_; clear n0_ n1_ n2_ n3_; clear hb hbox hg) | ((with_reducible refine gate_callee (f := 14) rfl ?_); refine goesL_ (some 15) rfl rfl Tp.func14 (by kernel_rfl) rfl #[.slice A0 l0.length c0, .int .i64 1048576] rfl (by (try simp only [List.map_toArray, List.map_cons, List.map_nil]); (rfl)) ?_; (with_reducible refine (laws_szRangeS.calls _ _ l0 1048576 t208 _ ?side1 ?side2 A4.out).mono ?_); (case side1 => exact Kd.C_below HR0.out HB.out); (case side2 => exact HC0.out); rintro e w' ⟨rfl, ⟨nd, rfl⟩⟩; refine ⟨_, rfl, ?_⟩))
   go_ret
   exact ⟨by (rfl), by repeat (((with_reducible first | exact HB.out | apply pw_below_drewN)))⟩
 · rw [if_neg c5] at H
   have c5b0 : decide (t208 < 0) = false := decide_eq_false c5
   clear c5
   replace H := Option.bind_eq_some_iff.mp H
   obtain ⟨t209, A70, H⟩ := H
   replace H : ((laws_toRange.f a1_0 a1_1).bind fun bt212 => ((spec_FreeFirst.f k t209 bt212.1 bt212.2 a2).bind fun bt214 => ((laws_toRangeS.f k l0).bind fun t216 => ((laws_toRange.f a1_0 a1_1).bind fun bt219 => ((impl_FreeFirst.f k t216 bt219.1 bt219.2 a2).bind fun bt221 => (if bt221.1 = bt214.1 then (laws_FnExactFreeFirst.j0 k l0 t216 (bt221.2 != bt214.2)) else (laws_FnExactFreeFirst.j0 k l0 t216 true))))))) = some r := H
   have A7 := Aside0.mk A70
   clear A70
   replace H := Option.bind_eq_some_iff.mp H
   obtain ⟨⟨t212, t213⟩, A80, H⟩ := H
   replace H : ((spec_FreeFirst.f k t209 t212 t213 a2).bind fun bt214 => ((laws_toRangeS.f k l0).bind fun t216 => ((laws_toRange.f a1_0 a1_1).bind fun bt219 => ((impl_FreeFirst.f k t216 bt219.1 bt219.2 a2).bind fun bt221 => (if bt221.1 = bt214.1 then (laws_FnExactFreeFirst.j0 k l0 t216 (bt221.2 != bt214.2)) else (laws_FnExactFreeFirst.j0 k l0 t216 true)))))) = some r := H
   have A8 := Aside0.mk A80
   clear A80
   replace H := Option.bind_eq_some_iff.mp H
   obtain ⟨⟨t214, t215⟩, A90, H⟩ := H
   replace H : ((laws_toRangeS.f k l0).bind fun t216 => ((laws_toRange.f a1_0 a1_1).bind fun bt219 => ((impl_FreeFirst.f k t216 bt219.1 bt219.2 a2).bind fun bt221 => (if bt221.1 = t214 then (laws_FnExactFreeFirst.j0 k l0 t216 (bt221.2 != t215)) else (laws_FnExactFreeFirst.j0 k l0 t216 true))))) = some r := H
   have A9 := Aside0.mk A90
   clear A90
   replace H := Option.bind_eq_some_iff.mp H
   obtain ⟨t216, A100, H⟩ := H
   replace H : ((laws_toRange.f a1_0 a1_1).bind fun bt219 => ((impl_FreeFirst.f k t216 bt219.1 bt219.2 a2).bind fun bt221 => (if bt221.1 = t214 then (laws_FnExactFreeFirst.j0 k l0 t216 (bt221.2 != t215)) else (laws_FnExactFreeFirst.j0 k l0 t216 true)))) = some r := H
   have A10 := Aside0.mk A100
   clear A100
   replace H := Option.bind_eq_some_iff.mp H
   obtain ⟨⟨t219, t220⟩, A110, H⟩ := H
   replace H : ((impl_FreeFirst.f k t216 t219 t220 a2).bind fun bt221 => (if bt221.1 = t214 then (laws_FnExactFreeFirst.j0 k l0 t216 (bt221.2 != t215)) else (laws_FnExactFreeFirst.j0 k l0 t216 true))) = some r := H
   have A11 := Aside0.mk A110
   clear A110
   replace H := Option.bind_eq_some_iff.mp H
   obtain ⟨⟨t221, t222⟩, A120, H⟩ := H
   replace H : (if t221 = t214 then (laws_FnExactFreeFirst.j0 k l0 t216 (t222 != t215)) else (laws_FnExactFreeFirst.j0 k l0 t216 true)) = some r := H
   have A12 := Aside0.mk A120
   clear A120
   have HC13 := Aside0.mk H
   clear H
   go_enter Tp.func3, Try.ntmps3
   try go_wp2_with (first | ((with_reducible refine gate_dst (N := 4) rfl ?_); refine box_event ?hg (N := 4) ?hd (cs := #[.int .i64 a1_0, .int .i64 a1_1]) (t := 24) ?hr ?_; (case hd => rfl); (case hg => rfl); (case hr => (go_simp; done)); intro gb207 hg w14 hbox hb; have n0_ := Aside0.mk (below_step HB.out hb); have n1_ := Aside0.mk (hbox); have n2_ := Aside0.mk ((by rw [hg]; exact (below_size HB.out) : w.heap.size ≤ gb207)); have n3_ := Aside0.mk ((by rw [hg]; exact (below_size HB.out) : w.heap.size ≤ gb207)); clear HB; have HB := n0_; have BK207 := n1_; have GW207 := n2_; have GE207 := n3_; clear n0_ n1_ n2_ n3_; clear hb hbox hg) | ((with_reducible refine gate_callee (f := 14) rfl ?_); refine goesL_ (some 15) rfl rfl Tp.func14 (by kernel_rfl) rfl #[.slice A0 l0.length c0, .int .i64 1048576] rfl (by (try simp only [List.map_toArray, List.map_cons, List.map_nil]); (rfl)) ?_; (with_reducible refine (laws_szRangeS.calls _ _ l0 1048576 t208 _ ?side1 ?side2 A4.out).mono ?_); (case side1 => exact Kd.C_below HR0.out HB.out); (case side2 => exact HC0.out); rintro e w' ⟨rfl, ⟨nd, rfl⟩⟩; refine ⟨_, rfl, ?_⟩))
   (try (rw [drewN_self w14]; generalize hq_ : World.drewN w14 _ = w14; have n0_ : Aside0 (w14.heap[gb207]? = some (.cells #[.int .i64 a1_0, .int .i64 a1_1] 24 (0, 0))) := ⟨by rw [← hq_]; exact (by (with_reducible repeat ((refine blk_drewN ?_ _))); exact BK207.out)⟩; have n1_ : Aside0 (Below w.heap.size w w14) := ⟨by rw [← hq_]; exact (by repeat (((with_reducible first | exact HB.out | apply pw_below_drewN))))⟩; clear BK207 HB hq_; have BK207 := n0_; have HB := n1_; clear n0_ n1_))
   have n0_ := Aside0.mk (blk_drew BK207.out)
   have n1_ := Aside0.mk (below_drew1 HB.out)
   clear BK207
   clear HB
   have BK207 := n0_
   have HB := n1_
   clear n0_ n1_
   refine start_ (n := 11) (S := fun w' => w'.cell? ⟨gb207, 0, none⟩ = some (.int .i64 a1_0) ∧ w'.cell? ⟨gb207, 1, none⟩ = some (.int .i64 a1_1)) (ds := []) q8_b11 (by kernel_rfl) rfl rfl ⟨(blk_cell BK207.out 0).trans rfl, (blk_cell BK207.out 1).trans rfl⟩ (fun hHeld => ?_); refine with_tabW laws_FnExactFreeFirst.tab5 laws_FnExactFreeFirst.bits5 (fun HT_ HW_ => ?_)
   generalize w14.drew = w15 at BK207 HB hHeld ⊢
   refine pure_ (i := 0) (N := some 19) (v := ?_) (a' := ?_) q8_b12 rfl rfl (any_of HT_.out (by kernel_rfl)) (fun _ _ _ h => h) (Or.inl ⟨by rfl, ?_⟩) ?_ ?_
   rotate_left
   · intro w'
     go_simp
     with_reducible rfl
   rotate_left
   · simp only [Act.put, zs]
     rfl
   refine pure_ (i := 4) (N := some 23) (v := ?_) (a' := ?_) q8_b13 rfl rfl (any_of HT_.out (by kernel_rfl)) (fun _ _ _ h => h) (Or.inl ⟨by rfl, ?_⟩) ?_ ?_
   rotate_left
   · intro w'
     go_simp
     with_reducible rfl
   rotate_left
   · simp only [Act.put, zs]
     rfl
   refine take_ (i := 2) (N := some 21) (v := ?_) (a' := ?_) q8_b14 rfl rfl (take_ofW HT_.out HW_.out (by kernel_rfl)) (fun _ _ _ h => h) (Or.inl ⟨by rfl, ?_⟩) hHeld ?_ ?_
   rotate_left
   · rintro w' ⟨s0, s1⟩
     go_simp
     with_reducible rfl
   rotate_left
   · simp only [Act.put, zs]
     rfl
   refine one_ (i := 1) (N := some 20) q8_b15 rfl rfl (one_of HT_.out (by kernel_rfl)) (by decide) (fun K hK => ?_)
   refine goes_ Tp.func16 (by kernel_rfl) rfl #[.slice A0 l0.length c0] (by rfl) rfl rfl (by (try simp only [List.map_toArray, List.map_cons, List.map_nil]); (rfl)) ?_
   with_reducible refine (laws_toRangeS.calls k _ _ l0 t209 _ ?side1 ?side2 A7.out).mono ?_
   (case side1 => exact Kd.C_below HR0.out HB.out)
   (case side2 => exact HC0.out)
   rintro e w16 ⟨v210, rfl, ho0, hb⟩
   refine ⟨_, rfl, ?_⟩
   have n0_ := Aside0.mk (Kd.R_lower ho0 (below_size HB.out))
   have n1_ := Aside0.mk (blk_below (g := gb207) (o := .cells #[.int .i64 a1_0, .int .i64 a1_1] 24 (0, 0)) (by exact BK207.out) hb)
   have n2_ := Aside0.mk (below_step HB.out hb)
   clear BK207
   clear HB
   have HO211 := n0_
   have BK207 := n1_
   have HB := n2_
   clear n0_ n1_ n2_
   (try clear hb)
   (try clear hb2)
   (try clear hk)
   (try clear hi)
   (try clear ho0)
   refine hK.out _ _ ⟨(blk_cell BK207.out 0).trans rfl, (blk_cell BK207.out 1).trans rfl⟩ (fun hHeld => ?_)
   clear hK K
   refine norm_ (a' := ?_) ?_ ?_
   rotate_left
   · show Act.put _ (some 20) _ = _
     simp only [Act.put, zs]
     rfl
   refine one_ (i := 3) (N := some 22) q8_b16 rfl rfl (one_of HT_.out (by kernel_rfl)) (by decide) (fun K hK => ?_)
   refine goes_ Tp.func17 (by kernel_rfl) rfl #[.agg #[.int .i64 a1_0, .int .i64 a1_1]] (by rfl) rfl rfl (by (try simp only [List.map_toArray, List.map_cons, List.map_nil]); (rfl)) ?_
   with_reducible refine (laws_toRange.calls a1_0 a1_1 t212 t213 _ A8.out).mono ?_
   rintro e w17 ⟨rfl, hb⟩
   refine ⟨_, rfl, ?_⟩
   have n0_ := Aside0.mk (Kd.R_below (by exact HO211.out) hb)
   have n1_ := Aside0.mk (blk_below (g := gb207) (o := .cells #[.int .i64 a1_0, .int .i64 a1_1] 24 (0, 0)) (by exact BK207.out) hb)
   have n2_ := Aside0.mk (below_step HB.out hb)
   clear HO211
   clear BK207
   clear HB
   have HO211 := n0_
   have BK207 := n1_
   have HB := n2_
   clear n0_ n1_ n2_
   (try clear hb)
   (try clear hb2)
   (try clear hk)
   (try clear hi)
   obtain ⟨Ao18, co18, eo18⟩ := Kd.R_slice HO211.out
   ((subst eo18))
   refine hK.out _ _ ⟨(blk_cell BK207.out 0).trans rfl, (blk_cell BK207.out 1).trans rfl⟩ (fun hHeld => ?_)
   clear hK K
   refine norm_ (a' := ?_) ?_ ?_
   rotate_left
   · show Act.put _ (some 22) _ = _
     simp only [Act.put, zs]
     rfl
   refine one_ (i := 5) (N := some 24) q8_b17 rfl rfl (one_of HT_.out (by kernel_rfl)) (by decide) (fun K hK => ?_)
   refine goes_ Tp.func15 (by kernel_rfl) rfl #[.slice Ao18 t209.length co18, .agg #[.int .i64 t212, .int .i64 t213], .int .i64 a2] (by rfl) rfl rfl (by (try simp only [List.map_toArray, List.map_cons, List.map_nil]); (rfl)) ?_
   with_reducible refine (spec_FreeFirst.calls k _ _ t209 t212 t213 a2 t214 t215 _ ?side1 ?side2 A9.out).mono ?_
   (case side1 => repeat ((exact (Kd.R_reads' HO211.out).2.2)))
   (case side2 => exact (Kd.R_reads' HO211.out).2.1)
   rintro e w19 ⟨rfl, hb⟩
   refine ⟨_, rfl, ?_⟩
   have n0_ := Aside0.mk (Kd.R_below (by exact HO211.out) hb)
   have n1_ := Aside0.mk (blk_below (g := gb207) (o := .cells #[.int .i64 a1_0, .int .i64 a1_1] 24 (0, 0)) (by exact BK207.out) hb)
   have n2_ := Aside0.mk (below_step HB.out hb)
   clear HO211
   clear BK207
   clear HB
   have HO211 := n0_
   have BK207 := n1_
   have HB := n2_
   clear n0_ n1_ n2_
   (try clear hb)
   (try clear hb2)
   (try clear hk)
   (try clear hi)
   refine hK.out _ _ ⟨(blk_cell BK207.out 0).trans rfl, (blk_cell BK207.out 1).trans rfl⟩ (fun hHeld => ?_)
   clear hK K
   refine norm_ (a' := ?_) ?_ ?_
   rotate_left
   · show Act.put _ (some 24) _ = _
     simp only [Act.put, zs]
     rfl
   refine pure_ (i := 6) (N := some 18) (v := ?_) (a' := ?_) q8_b18 rfl rfl (any_of HT_.out (by kernel_rfl)) (fun _ _ _ h => h) (Or.inl ⟨by rfl, ?_⟩) ?_ ?_
   rotate_left
   · intro w'
     go_simp
     with_reducible rfl
   rotate_left
   · simp only [Act.put, zs]
     rfl
   refine pure_ (i := 7) (N := some 25) (v := ?_) (a' := ?_) q8_b19 rfl rfl (any_of HT_.out (by kernel_rfl)) (fun _ _ _ h => h) (Or.inl ⟨by rfl, ?_⟩) ?_ ?_
   rotate_left
   · intro w'
     go_simp
     with_reducible rfl
   rotate_left
   · simp only [Act.put, zs]
     rfl
   refine pure_ (i := 8) (N := some 26) (v := ?_) (a' := ?_) q8_b20 rfl rfl (any_of HT_.out (by kernel_rfl)) (fun _ _ _ h => h) (Or.inl ⟨by rfl, ?_⟩) ?_ ?_
   rotate_left
   · intro w'
     go_simp
     with_reducible rfl
   rotate_left
   · simp only [Act.put, zs]
     rfl
   refine pure_ (i := 9) (N := some 8) (v := ?_) (a' := ?_) q8_b21 rfl rfl (any_of HT_.out (by kernel_rfl)) (fun _ _ _ h => h) (Or.inl ⟨by rfl, ?_⟩) ?_ ?_
   rotate_left
   · intro w'
     go_simp
     with_reducible rfl
   rotate_left
   · simp only [Act.put, zs]
     rfl
   refine pure_ (i := 10) (N := some 9) (v := ?_) (a' := ?_) q8_b22 rfl rfl (any_of HT_.out (by kernel_rfl)) (fun _ _ _ h => h) (Or.inl ⟨by rfl, ?_⟩) ?_ ?_
   rotate_left
   · intro w'
     go_simp
     with_reducible rfl
   rotate_left
   · simp only [Act.put, zs]
     rfl
   refine done_ (done_of HT_.out (by kernel_rfl)) ?_
   go_upto_region 8 with (first | ((with_reducible refine gate_callee (f := 16) rfl ?_); refine goesL_ (some 28) rfl rfl Tp.func16 (by kernel_rfl) rfl #[.slice A0 l0.length c0] rfl (by (try simp only [List.map_toArray, List.map_cons, List.map_nil]); (rfl)) ?_; (with_reducible refine (laws_toRangeS.calls k _ _ l0 t216 _ ?side1 ?side2 A10.out).mono ?_); (case side1 => exact Kd.C_below HR0.out HB.out); (case side2 => exact HC0.out); rintro e w20 ⟨v217, rfl, ho0, hb⟩; refine ⟨_, rfl, ?_⟩; have n0_ := Aside0.mk (Kd.R_elder' (by exact HO211.out) (Kd.R_base ho0) hb); have n1_ := Aside0.mk (Kd.R_lower (Kd.R_new' ho0 (Kd.R_lt (by exact HO211.out))) (below_size HB.out)); have n2_ := Aside0.mk (blk_below (g := gb207) (o := .cells #[.int .i64 a1_0, .int .i64 a1_1] 24 (0, 0)) (by exact BK207.out) hb); have n3_ := Aside0.mk (below_step HB.out hb); clear HO211; clear BK207; clear HB; have HO211 := n0_; have HO218 := n1_; have BK207 := n2_; have HB := n3_; clear n0_ n1_ n2_ n3_; (try clear hb); (try clear hb2); (try clear hk); (try clear hi); (try clear ho0); have hcz21_0 : w20.cell? ⟨gb207, 0, none⟩ = some (.int .i64 a1_0) := (blk_cell BK207.out 0).trans rfl; have hcz21_1 : w20.cell? ⟨gb207, 1, none⟩ = some (.int .i64 a1_1) := (blk_cell BK207.out 1).trans rfl; have hfz21_0 := blk_frozen BK207.out 0; have hfz21_1 := blk_frozen BK207.out 1) | ((with_reducible refine gate_callee (f := 17) rfl ?_); refine goesL_ (some 32) rfl rfl Tp.func17 (by kernel_rfl) rfl #[.agg #[.int .i64 a1_0, .int .i64 a1_1]] rfl (by (try simp only [List.map_toArray, List.map_cons, List.map_nil]); (rfl)) ?_; (with_reducible refine (laws_toRange.calls a1_0 a1_1 t219 t220 _ A11.out).mono ?_); rintro e w22 ⟨rfl, hb⟩; refine ⟨_, rfl, ?_⟩; have n0_ := Aside0.mk (Kd.R_below (by exact HO211.out) hb); have n1_ := Aside0.mk (Kd.R_below (by exact HO218.out) hb); have n2_ := Aside0.mk (blk_below (g := gb207) (o := .cells #[.int .i64 a1_0, .int .i64 a1_1] 24 (0, 0)) (by exact BK207.out) hb); have n3_ := Aside0.mk (below_step HB.out hb); clear HO211; clear HO218; clear BK207; clear HB; have HO211 := n0_; have HO218 := n1_; have BK207 := n2_; have HB := n3_; clear n0_ n1_ n2_ n3_; (try clear hb); (try clear hb2); (try clear hk); (try clear hi); obtain ⟨Ao23, co23, eo23⟩ := Kd.R_slice HO218.out; subst eo23) | ((with_reducible refine gate_callee (f := 18) rfl ?_); refine goesL_ (some 34) rfl rfl Tp.func18 (by kernel_rfl) rfl #[.slice Ao23 t216.length co23, .agg #[.int .i64 t219, .int .i64 t220], .int .i64 a2] rfl (by (try simp only [List.map_toArray, List.map_cons, List.map_nil]); (rfl)) ?_; (with_reducible refine (impl_FreeFirst.calls k _ _ t216 t219 t220 a2 t221 t222 _ ?side1 ?side2 A12.out).mono ?_); (case side1 => repeat ((exact (Kd.R_reads' HO218.out).2.2))); (case side2 => exact (Kd.R_reads' HO218.out).2.1); rintro e w24 ⟨rfl, hb⟩; refine ⟨_, rfl, ?_⟩; have n0_ := Aside0.mk (Kd.R_below (by exact HO211.out) hb); have n1_ := Aside0.mk (Kd.R_below (by exact HO218.out) hb); have n2_ := Aside0.mk (blk_below (g := gb207) (o := .cells #[.int .i64 a1_0, .int .i64 a1_1] 24 (0, 0)) (by exact BK207.out) hb); have n3_ := Aside0.mk (below_step HB.out hb); clear HO211; clear HO218; clear BK207; clear HB; have HO211 := n0_; have HO218 := n1_; have BK207 := n2_; have HB := n3_; clear n0_ n1_ n2_ n3_; (try clear hb); (try clear hb2); (try clear hk); (try clear hi)))
   (try simp only [Act.put, zs])
   go_cut [44] (fun v44 wc => ∃ (kq : Nat) (x44_12 : Bool), v44 = .bool x44_12 ∧ Aside0 (laws_FnExactFreeFirst.j0 kq l0 t216 x44_12 = some r) ∧ Aside0 (kq ≤ k) ∧ Aside0 (Kd.R k30 30 wc w.heap.size (fun _ => True) (.slice Ao23 t216.length co23) t216) ∧ Aside0 (wc.heap[gb207]? = some (.cells #[.int .i64 a1_0, .int .i64 a1_1] 24 (0, 0))) ∧ Aside0 (Below w.heap.size w wc))
   case first =>
     have H := HC13.out
     clear HC13
     by_cases c25 : t221 = t214
     · rw [if_pos c25] at H
       have c25b0 : (t221 == t214) = true := beq_iff_eq.mpr c25
       have c25b1 : (t221 != t214) = false := bne_eq_false_iff_eq.mpr c25
       clear c25
       ((skip))
       have H' := Aside0.mk H
       clear H
       go_wp2
       go_meet
       case rel => exact ⟨_, ((t222 != t215)), (by (rfl)), H', ⟨by (omega)⟩, ⟨by exact Kd.R_mono HO218.out (fun _ hk => trivial)⟩, ⟨by exact BK207.out⟩, ⟨HB.out⟩⟩
     · rw [if_neg c25] at H
       have c25b0 : (t221 == t214) = false := beq_eq_false_iff_ne.mpr c25
       have c25b1 : (t221 != t214) = true := bne_iff_ne.mpr c25
       ((skip))
       have H' := Aside0.mk H
       clear H
       go_wp2
       go_meet
       case rel => exact ⟨_, (true), (by (rfl)), H', ⟨by (omega)⟩, ⟨by exact Kd.R_mono HO218.out (fun _ hk => trivial)⟩, ⟨by exact BK207.out⟩, ⟨HB.out⟩⟩
   case rest =>
     clear HC13
     try clear c1
     try clear c2
     try clear p2
     try clear c3
     try clear c5
     try clear c5b0
     try clear c14
     try clear c15
     try clear c16
     try clear c17
     try clear c18
     try clear c25
     try clear c25b0
     try clear c25b1
     try clear hcz21_0
     try clear hcz21_1
     try clear hfz21_0
     try clear hfz21_1
     obtain ⟨kq, x44_12, rfl, HA, HJ12, HO_10, BK207, HB⟩ := hcut
     cases kq with
     | zero => exact absurd HA.out (by simp [laws_FnExactFreeFirst.j0])
     | succ kj12 =>
       have H := HA.out
       clear HA
       simp only [laws_FnExactFreeFirst.j0] at H
       by_cases c26 : x44_12 = true
       · subst c26
         have H1 : (some false) = some r := by rw [if_pos rfl] at H; exact H
         clear H
         have H := H1
         clear H1
         obtain rfl := Option.some.inj H
         go_wp2
         go_ret
         exact ⟨rfl, HB.out⟩
       · replace c26 := Bool.eq_false_iff.mpr c26
         subst c26
         have H1 : ((laws_toRangeS.f kj12 l0).bind fun t223 => ((laws_eqRangeS.f kj12 t216 t223).bind fun t226 => (if t226 = true then (some true) else (some false)))) = some r := by rw [if_neg (show ¬ (false = true) by decide)] at H; exact H
         clear H
         have H := H1
         clear H1
         replace H := Option.bind_eq_some_iff.mp H
         obtain ⟨t223, A270, H⟩ := H
         replace H : ((laws_eqRangeS.f kj12 t216 t223).bind fun t226 => (if t226 = true then (some true) else (some false))) = some r := H
         have A27 := Aside0.mk A270
         clear A270
         replace H := Option.bind_eq_some_iff.mp H
         obtain ⟨t226, A280, H⟩ := H
         replace H : (if t226 = true then (some true) else (some false)) = some r := H
         have A28 := Aside0.mk A280
         clear A280
         by_cases c29 : t226 = true
         · subst c29
           have H1 : (some true) = some r := by rw [if_pos rfl] at H; exact H
           clear H
           have H := H1
           clear H1
           obtain rfl := Option.some.inj H
           go_wp2_with (first | ((with_reducible refine gate_callee (f := 16) rfl ?_); refine goesL_ (some 47) rfl rfl Tp.func16 (by kernel_rfl) rfl #[.slice A0 l0.length c0] rfl (by (try simp only [List.map_toArray, List.map_cons, List.map_nil]); (rfl)) ?_; (with_reducible refine (laws_toRangeS.calls kj12 _ _ l0 t223 _ ?side1 ?side2 A27.out).mono ?_); (case side1 => exact Kd.C_below HR0.out HB.out); (case side2 => exact HC0.out); rintro e w30 ⟨v224, rfl, ho0, hb⟩; refine ⟨_, rfl, ?_⟩; have n0_ := Aside0.mk (Kd.R_elder' (by exact HO_10.out) (Kd.R_base ho0) hb); have n1_ := Aside0.mk (Kd.R_lower (Kd.R_new' ho0 (Kd.R_lt (by exact HO_10.out))) (below_size HB.out)); have n2_ := Aside0.mk (blk_below (g := gb207) (o := .cells #[.int .i64 a1_0, .int .i64 a1_1] 24 (0, 0)) (by exact BK207.out) hb); have n3_ := Aside0.mk (below_step HB.out hb); clear HO_10; clear BK207; clear HB; have HO_10 := n0_; have HO225 := n1_; have BK207 := n2_; have HB := n3_; clear n0_ n1_ n2_ n3_; (try clear hb); (try clear hb2); (try clear hk); (try clear hi); (try clear ho0); obtain ⟨Ao31, co31, eo31⟩ := Kd.R_slice HO225.out; subst eo31) | ((with_reducible refine gate_callee (f := 19) rfl ?_); refine goesL_ (some 48) rfl rfl Tp.func19 (by kernel_rfl) rfl #[.slice Ao23 t216.length co23, .slice Ao31 t223.length co31] rfl (by (try simp only [List.map_toArray, List.map_cons, List.map_nil]); (rfl)) ?_; (with_reducible refine (laws_eqRangeS.calls kj12 _ _ t216 _ _ t223 true _ ?side1 ?side2 ?side3 ?side4 A28.out).mono ?_); (case side1 => repeat ((exact (Kd.R_reads' HO_10.out).2.2))); (case side2 => exact (Kd.R_reads' HO_10.out).2.1); (case side3 => repeat ((exact (Kd.R_reads' HO225.out).2.2))); (case side4 => exact (Kd.R_reads' HO225.out).2.1); rintro e w32 ⟨rfl, hb⟩; refine ⟨_, rfl, ?_⟩; have n0_ := Aside0.mk (Kd.R_below (by exact HO_10.out) hb); have n1_ := Aside0.mk (Kd.R_below (by exact HO225.out) hb); have n2_ := Aside0.mk (blk_below (g := gb207) (o := .cells #[.int .i64 a1_0, .int .i64 a1_1] 24 (0, 0)) (by exact BK207.out) hb); have n3_ := Aside0.mk (below_step HB.out hb); clear HO_10; clear HO225; clear BK207; clear HB; have HO_10 := n0_; have HO225 := n1_; have BK207 := n2_; have HB := n3_; clear n0_ n1_ n2_ n3_; (try clear hb); (try clear hb2); (try clear hk); (try clear hi)))
           go_ret
           exact ⟨rfl, HB.out⟩
         · replace c29 := Bool.eq_false_iff.mpr c29
           subst c29
           have H1 : (some false) = some r := by rw [if_neg (show ¬ (false = true) by decide)] at H; exact H
           clear H
           have H := H1
           clear H1
           obtain rfl := Option.some.inj H
           go_wp2_with (first | ((with_reducible refine gate_callee (f := 16) rfl ?_); refine goesL_ (some 47) rfl rfl Tp.func16 (by kernel_rfl) rfl #[.slice A0 l0.length c0] rfl (by (try simp only [List.map_toArray, List.map_cons, List.map_nil]); (rfl)) ?_; (with_reducible refine (laws_toRangeS.calls kj12 _ _ l0 t223 _ ?side1 ?side2 A27.out).mono ?_); (case side1 => exact Kd.C_below HR0.out HB.out); (case side2 => exact HC0.out); rintro e w33 ⟨v224, rfl, ho0, hb⟩; refine ⟨_, rfl, ?_⟩; have n0_ := Aside0.mk (Kd.R_elder' (by exact HO_10.out) (Kd.R_base ho0) hb); have n1_ := Aside0.mk (Kd.R_lower (Kd.R_new' ho0 (Kd.R_lt (by exact HO_10.out))) (below_size HB.out)); have n2_ := Aside0.mk (blk_below (g := gb207) (o := .cells #[.int .i64 a1_0, .int .i64 a1_1] 24 (0, 0)) (by exact BK207.out) hb); have n3_ := Aside0.mk (below_step HB.out hb); clear HO_10; clear BK207; clear HB; have HO_10 := n0_; have HO225 := n1_; have BK207 := n2_; have HB := n3_; clear n0_ n1_ n2_ n3_; (try clear hb); (try clear hb2); (try clear hk); (try clear hi); (try clear ho0); obtain ⟨Ao34, co34, eo34⟩ := Kd.R_slice HO225.out; subst eo34) | ((with_reducible refine gate_callee (f := 19) rfl ?_); refine goesL_ (some 48) rfl rfl Tp.func19 (by kernel_rfl) rfl #[.slice Ao23 t216.length co23, .slice Ao34 t223.length co34] rfl (by (try simp only [List.map_toArray, List.map_cons, List.map_nil]); (rfl)) ?_; (with_reducible refine (laws_eqRangeS.calls kj12 _ _ t216 _ _ t223 false _ ?side1 ?side2 ?side3 ?side4 A28.out).mono ?_); (case side1 => repeat ((exact (Kd.R_reads' HO_10.out).2.2))); (case side2 => exact (Kd.R_reads' HO_10.out).2.1); (case side3 => repeat ((exact (Kd.R_reads' HO225.out).2.2))); (case side4 => exact (Kd.R_reads' HO225.out).2.1); rintro e w35 ⟨rfl, hb⟩; refine ⟨_, rfl, ?_⟩; have n0_ := Aside0.mk (Kd.R_below (by exact HO_10.out) hb); have n1_ := Aside0.mk (Kd.R_below (by exact HO225.out) hb); have n2_ := Aside0.mk (blk_below (g := gb207) (o := .cells #[.int .i64 a1_0, .int .i64 a1_1] 24 (0, 0)) (by exact BK207.out) hb); have n3_ := Aside0.mk (below_step HB.out hb); clear HO_10; clear HO225; clear BK207; clear HB; have HO_10 := n0_; have HO225 := n1_; have BK207 := n2_; have HB := n3_; clear n0_ n1_ n2_ n3_; (try clear hb); (try clear hb2); (try clear hk); (try clear hi)))
           go_ret
           exact ⟨rfl, HB.out⟩
end Go.Proofs.Ytcoppnbjpncdcaa.PAll
end
section
set_option linter.unusedVariables false
set_option linter.unusedSimpArgs false
namespace Go.Proofs.Ytcoppnbjpncdcaa.PAll
open Go.RowKit
theorem w64 {n : Int} (h0 : -9223372036854775808 ≤ n) (h1 : n ≤ 9223372036854775807) : wrap64 n = n := by unfold wrap64; omega
theorem w64s {i : Nat} (h : i ≤ 1099511627776) : wrap64 ((i : Int) + 1) = ((i + 1 : Nat) : Int) := by rw [w64 (by omega) (by omega)]; omega
theorem rd30 {l : List S30} {i : Nat} (h : i < l.length) : rd_T30 l (i : Int) = l[i] := by simp [rd_T30, List.getD_eq_getElem?_getD, List.getElem?_eq_getElem h]
theorem rd24 {l : List S24} {i : Nat} (h : i < l.length) : rd_T24 l (i : Int) = l[i] := by simp [rd_T24, List.getD_eq_getElem?_getD, List.getElem?_eq_getElem h]
def inst (a : Int) : Bool := decide (-86400000 ≤ a ∧ a ≤ 315537984000000)
def okr (a b : Int) : Bool := inst a && inst b && decide (a < b)
theorem specRange (a b : Int) : spec_l32Range.f a b = some (okr a b) := by
 unfold spec_l32Range.f spec_l12Ok.f spec_l6In.f okr inst
 by_cases h1 : a ≥ -86400000 <;> by_cases h2 : a ≤ 315537984000000 <;> by_cases h3 : b ≥ -86400000 <;> by_cases h4 : b ≤ 315537984000000 <;> simp [h1, h2, h3, h4, ge_iff_le]
theorem implRange (a b : Int) : impl_rangeValid.f a b = some (okr a b) := by
 unfold impl_rangeValid.f impl_instantValid.f impl_within.f okr inst
 by_cases h1 : a ≥ -86400000 <;> by_cases h2 : a ≤ 315537984000000 <;> by_cases h3 : b ≥ -86400000 <;> by_cases h4 : b ≤ 315537984000000 <;> simp [h1, h2, h3, h4, ge_iff_le]
def asc (l : List S30) : Nat → Bool
 | 0 => true
 | r + 1 =>
   let i := l.length - (r + 1)
   if okr (rd_T30 l i).f0 (rd_T30 l i).f1 = true then (if 0 < i then (if (rd_T30 l i).f0 ≤ (rd_T30 l ((i - 1 : Nat) : Int)).f1 then false else asc l r) else asc l r) else false
theorem specAscend {l : List S30} (hl : l.length ≤ 1099511627776) : ∀ r i k, i + r = l.length → r < k → spec_l32Ascend.l0 k l (i : Int) = some (asc l r) := by
 intro r
 induction r with
 | zero =>
   intro i k hi hk
   obtain ⟨k, rfl⟩ : ∃ k', k = k' + 1 := ⟨k - 1, by omega⟩
   rw [spec_l32Ascend.l0, if_neg (by omega)]; rfl
 | succ r ih =>
   intro i k hi hk
   obtain ⟨k, rfl⟩ : ∃ k', k = k' + 1 := ⟨k - 1, by omega⟩
   have e : l.length - (r + 1) = i := by omega
   rw [spec_l32Ascend.l0, if_pos (by omega), if_pos (by omega), specRange, w64s (by omega)]
   rw [asc]
   simp only [e, Option.bind_some]
   by_cases ho : okr (rd_T30 l i).f0 (rd_T30 l i).f1 = true
   · rw [if_pos ho, if_pos ho]
     by_cases h0 : 0 < i
     · have e2 : wrap64 ((i : Int) - 1) = ((i - 1 : Nat) : Int) := by rw [w64 (by omega) (by omega)]; omega
       rw [if_pos (by omega), if_pos h0, e2, if_pos (by omega), if_pos (by omega)]
       by_cases hc : (rd_T30 l i).f0 ≤ (rd_T30 l ((i - 1 : Nat) : Int)).f1
       · rw [if_pos hc, if_pos hc]
       · rw [if_neg hc, if_neg hc]; exact ih (i + 1) k (by omega) (by omega)
     · rw [if_neg (by omega), if_neg h0]; exact ih (i + 1) k (by omega) (by omega)
   · rw [if_neg ho, if_neg ho]
theorem implAscend {l : List S30} (hl : l.length ≤ 1099511627776) : ∀ r i k, i + r = l.length → r < k → impl_RangesValid.l0 k l l (l.length : Int) (i : Int) = some (asc l r) := by
 intro r
 induction r with
 | zero =>
   intro i k hi hk
   obtain ⟨k, rfl⟩ : ∃ k', k = k' + 1 := ⟨k - 1, by omega⟩
   rw [impl_RangesValid.l0, if_neg (by omega)]; rfl
 | succ r ih =>
   intro i k hi hk
   obtain ⟨k, rfl⟩ : ∃ k', k = k' + 1 := ⟨k - 1, by omega⟩
   have e : l.length - (r + 1) = i := by omega
   rw [impl_RangesValid.l0, if_pos (by omega), if_pos (by omega), if_pos (by omega), implRange, w64s (by omega)]
   rw [asc]
   simp only [e, Option.bind_some]
   by_cases ho : okr (rd_T30 l i).f0 (rd_T30 l i).f1 = true
   · rw [if_pos ho, if_pos ho]
     by_cases h0 : 0 < i
     · have e2 : wrap64 ((i : Int) - 1) = ((i - 1 : Nat) : Int) := by rw [w64 (by omega) (by omega)]; omega
       rw [if_pos (by omega), if_pos h0, e2, if_pos (by omega), if_pos (by omega)]
       by_cases hc : (rd_T30 l i).f0 ≤ (rd_T30 l ((i - 1 : Nat) : Int)).f1
       · rw [if_pos hc, if_pos hc]
       · rw [if_neg hc, if_neg hc]; exact ih (i + 1) k (by omega) (by omega)
     · rw [if_neg (by omega), if_neg h0]; exact ih (i + 1) k (by omega) (by omega)
   · rw [if_neg ho, if_neg ho]
def valid (l : List S30) : Bool := asc l l.length && decide (l.length ≤ 8)
theorem specValid {l : List S30} (hl : l.length ≤ 1099511627776) {k : Nat} (hk : l.length < k) : spec_RangesValid.f k l = some (valid l) := by
 unfold spec_RangesValid.f spec_l32Ascend.f valid
 have := specAscend hl l.length 0 k (by omega) hk
 rw [show ((0 : Nat) : Int) = 0 from rfl] at this
 rw [this, Option.bind_some]
 by_cases h : asc l l.length = true
 · rw [if_pos h, h]; simp only [Bool.true_and]; congr 2; apply propext; omega
 · rw [if_neg h]; simp [h]
theorem implValid {l : List S30} (hl : l.length ≤ 1099511627776) {k : Nat} (hk : l.length < k) : impl_RangesValid.f k l = some (valid l) := by
 unfold impl_RangesValid.f valid
 by_cases h8 : (l.length : Int) > 8
 · rw [if_pos h8, decide_eq_false (by omega), Bool.and_false]
 · have := implAscend hl l.length 0 k (by omega) hk
   rw [show ((0 : Nat) : Int) = 0 from rfl] at this
   rw [if_neg h8, this, decide_eq_true (by omega : l.length ≤ 8), Bool.and_true]
def asked (l : List S30) (a b least : Int) : Bool := valid l && okr a b && decide (least ≥ 1)
theorem specAsked {l : List S30} (hl : l.length ≤ 1099511627776) {k : Nat} (hk : l.length < k) (a b least : Int) : spec_l42Ok.f k l a b least = some (asked l a b least) := by
 unfold spec_l42Ok.f asked
 rw [specValid hl hk, specRange]
 cases valid l <;> cases okr a b <;> simp
theorem implAsked {l : List S30} (hl : l.length ≤ 1099511627776) {k : Nat} (hk : l.length < k) (a b least : Int) : impl_askedValid.f k l a b least = some (asked l a b least) := by
 unfold impl_askedValid.f asked
 rw [implValid hl hk, implRange]
 cases valid l <;> cases okr a b <;> simp
def minusL : List S30 → Int → Int → List S30
 | [], c, b => if c < b then [⟨c, b⟩] else []
 | r :: t, c, b => if r.f1 ≤ c then minusL t c b else if r.f0 ≥ b then minusL t c b else if c < r.f0 then ⟨c, r.f0⟩ :: minusL t r.f1 b else minusL t r.f1 b
theorem minusL_length : ∀ (l : List S30) (c b : Int), (minusL l c b).length ≤ l.length + 1
 | [], c, b => by unfold minusL; split <;> simp
 | r :: t, c, b => by
   unfold minusL
   have h1 := minusL_length t c b
   have h2 := minusL_length t r.f1 b
   repeat' split
   all_goals simp only [List.length_cons]; omega
theorem dropS {l : List S30} {i : Nat} (h : i < l.length) : l.drop i = rd_T30 l (i : Int) :: l.drop (i + 1) := by rw [rd30 h]; exact List.drop_eq_getElem_cons h
theorem implMinus {l : List S30} (hl : l.length ≤ 1099511627776) : ∀ r i k acc c b, i + r = l.length → 2 * r < k → acc.length ≤ i → impl_minus.l0 k acc l (l.length : Int) (i : Int) c b = some (acc ++ minusL (l.drop i) c b) := by
 intro r
 induction r with
 | zero =>
   intro i k acc c b hi hk ha
   obtain ⟨k, rfl⟩ : ∃ k', k = k' + 1 := ⟨k - 1, by omega⟩
   rw [impl_minus.l0, if_neg (by omega), List.drop_eq_nil_of_le (by omega), minusL]
   by_cases hc : c < b
   · rw [if_pos hc, if_pos (by omega), if_pos hc]
   · rw [if_neg hc, if_neg hc, List.append_nil]
 | succ r ih =>
   intro i k acc c b hi hk ha
   obtain ⟨k, rfl⟩ : ∃ k', k = k' + 2 := ⟨k - 2, by omega⟩
   rw [impl_minus.l0, if_pos (by omega), if_pos (by omega), if_pos (by omega), dropS (by omega), minusL]
   by_cases h1 : (rd_T30 l i).f1 ≤ c
   · rw [if_pos h1, if_pos h1, impl_minus.j1, if_pos rfl, w64s (by omega)]
     exact ih (i + 1) k acc c b (by omega) (by omega) (by omega)
   · rw [if_neg h1, if_neg h1, impl_minus.j1]
     by_cases h2 : (rd_T30 l i).f0 ≥ b
     · rw [if_pos h2, decide_eq_true h2, if_pos rfl, w64s (by omega)]
       exact ih (i + 1) k acc c b (by omega) (by omega) (by omega)
     · rw [if_neg h2, decide_eq_false h2, if_neg (by simp), w64s (by omega)]
       by_cases h3 : c < (rd_T30 l i).f0
       · rw [if_pos h3, if_pos (by omega), if_pos h3, ih (i + 1) k _ _ b (by omega) (by omega) (by simp; omega), List.append_assoc]; rfl
       · rw [if_neg h3, if_neg h3]
         exact ih (i + 1) k acc _ b (by omega) (by omega) (by omega)
theorem specWithout {l : List S30} (hl : l.length ≤ 1099511627776) (a : Int) : ∀ r i k acc c b, i + r = l.length → 2 * r < k → acc.length ≤ i → spec_l32Without.l0 k l acc c (i : Int) a b = some (acc ++ minusL (l.drop i) c b) := by
 intro r
 induction r with
 | zero =>
   intro i k acc c b hi hk ha
   obtain ⟨k, rfl⟩ : ∃ k', k = k' + 1 := ⟨k - 1, by omega⟩
   rw [spec_l32Without.l0, if_neg (by omega), List.drop_eq_nil_of_le (by omega), minusL]
   by_cases hc : c < b
   · rw [if_pos hc, if_pos (by omega), if_pos hc]
   · rw [if_neg hc, if_neg hc, List.append_nil]
 | succ r ih =>
   intro i k acc c b hi hk ha
   obtain ⟨k, rfl⟩ : ∃ k', k = k' + 2 := ⟨k - 2, by omega⟩
   rw [spec_l32Without.l0, if_pos (by omega), if_pos (by omega), dropS (by omega), minusL]
   by_cases h1 : (rd_T30 l i).f1 ≤ c
   · rw [if_neg (by omega), if_pos h1, spec_l32Without.j1, if_neg (by simp), w64s (by omega)]
     exact ih (i + 1) k acc c b (by omega) (by omega) (by omega)
   · rw [if_pos (by omega), if_neg h1, spec_l32Without.j1]
     by_cases h2 : (rd_T30 l i).f0 ≥ b
     · rw [if_pos h2, decide_eq_false (by omega), if_neg (by simp), w64s (by omega)]
       exact ih (i + 1) k acc c b (by omega) (by omega) (by omega)
     · rw [if_neg h2, decide_eq_true (by omega), if_pos rfl, if_pos (by omega), if_pos (by omega), w64s (by omega)]
       by_cases h3 : c < (rd_T30 l i).f0
       · rw [if_pos h3, if_pos (by omega), if_pos (by omega), ih (i + 1) k _ _ b (by omega) (by omega) (by simp; omega), List.append_assoc]; rfl
       · rw [if_neg h3, if_neg (by omega)]
         exact ih (i + 1) k acc _ b (by omega) (by omega) (by omega)
def long (least : Int) (r : S30) : Bool := decide (wrap64 (r.f1 - r.f0) ≥ least)
theorem specFree0 {t : List S30} (hl : t.length ≤ 1099511627776) (least : Int) : ∀ r i k acc, i + r = t.length → r < k → acc.length ≤ i → spec_FreeRanges.l0 k least acc t (i : Int) = some (acc ++ (t.drop i).filter (long least)) := by
 intro r
 induction r with
 | zero =>
   intro i k acc hi hk ha
   obtain ⟨k, rfl⟩ : ∃ k', k = k' + 1 := ⟨k - 1, by omega⟩
   rw [spec_FreeRanges.l0, if_neg (by omega), List.drop_eq_nil_of_le (by omega), List.filter_nil, List.append_nil]
 | succ r ih =>
   intro i k acc hi hk ha
   obtain ⟨k, rfl⟩ : ∃ k', k = k' + 1 := ⟨k - 1, by omega⟩
   rw [spec_FreeRanges.l0, if_pos (by omega), if_pos (by omega), dropS (by omega), w64s (by omega)]
   by_cases h : wrap64 ((rd_T30 t i).f1 - (rd_T30 t i).f0) ≥ least
   · rw [if_pos h, if_pos (by omega), ih (i + 1) k _ (by omega) (by omega) (by simp; omega), List.filter_cons_of_pos (by simpa [long] using h), List.append_assoc]; rfl
   · rw [if_neg h, ih (i + 1) k _ (by omega) (by omega) (by omega), List.filter_cons_of_neg (by simpa [long] using h)]
def freeL (l : List S30) (a b least : Int) : List S30 := (minusL l a b).filter (long least)
def ranges (l : List S30) (a b least : Int) : List S30 := if asked l a b least = true then freeL l a b least else []
theorem asked_len {l : List S30} {a b least : Int} (h : asked l a b least = true) : l.length ≤ 8 := by
 unfold asked valid at h; simp at h; exact h.1.1.2
theorem specFree {l : List S30} (hl : l.length ≤ 1048576) {k : Nat} (hk : 2 * l.length + 2 < k) (a b least : Int) : spec_FreeRanges.f k l a b least = some (ranges l a b least) := by
 unfold spec_FreeRanges.f ranges
 rw [Option.bind_some, specAsked (by omega) (by omega), Option.bind_some]
 by_cases h : asked l a b least = true
 · have h1 := specWithout (l := l) (by omega) a l.length 0 k [] a b (by omega) (by omega) (by simp)
   have hm := minusL_length l a b
   have h2 := specFree0 (t := minusL l a b) (by omega) least (minusL l a b).length 0 k [] (by omega) (by omega) (by simp)
   rw [show ((0 : Nat) : Int) = 0 from rfl] at h1 h2
   rw [if_pos h, if_pos h, spec_l32Without.f, h1]
   simp only [List.drop_zero, List.nil_append, Option.bind_some] at h2 ⊢
   exact h2
 · rw [if_neg h, if_neg h]
theorem implFree {l : List S30} {k : Nat} (hk : 2 * l.length + 2 < k) {a b least : Int} (h : l.length ≤ 8) : impl_free.f k l a b least = some (freeL l a b least) := by
 have h1 := implMinus (l := l) (by omega) l.length 0 k [] a b (by omega) (by omega) (by simp)
 have hm := minusL_length l a b
 unfold impl_free.f impl_minus.f
 rw [show ((0 : Nat) : Int) = 0 from rfl] at h1
 rw [h1]
 simp only [List.drop_zero, List.nil_append, Option.bind_some]
 rw [if_pos (by omega)]
 rfl
def first (t : List S30) : Int × Bool := match t with | [] => (0, false) | r :: _ => (r.f0, true)
theorem specFirst {l : List S30} (hl : l.length ≤ 1048576) {k : Nat} (hk : 2 * l.length + 2 < k) (a b least : Int) : spec_FreeFirst.f k l a b least = some (first (ranges l a b least)) := by
 unfold spec_FreeFirst.f
 rw [specFree hl hk, Option.bind_some]
 cases ranges l a b least with
 | nil => rfl
 | cons r t =>
   rw [if_neg (by simp; omega), if_pos (by simp)]
   rfl
theorem implFirst {l : List S30} (hl : l.length ≤ 1048576) {k : Nat} (hk : 2 * l.length + 2 < k) (a b least : Int) : impl_FreeFirst.f k l a b least = some (first (ranges l a b least)) := by
 unfold impl_FreeFirst.f ranges
 rw [implAsked (by omega) (by omega), Option.bind_some]
 by_cases h : asked l a b least = true
 · rw [if_pos h, if_pos h, implFree hk (asked_len h), Option.bind_some]
   obtain ⟨k, rfl⟩ : ∃ k', k = k' + 1 := ⟨k - 1, by omega⟩
   cases freeL l a b least with
   | nil => rfl
   | cons r t =>
     rw [impl_FreeFirst.l0, if_pos (by simp), if_pos (by omega), if_pos (by simp)]
     rfl
 · rw [if_neg h, if_neg h]; rfl
def conv (x : S24) : S30 := ⟨x.f0, x.f1⟩
theorem toRangeS0 {l : List S24} (hl : l.length ≤ 1048576) : ∀ r i k x, i + r = l.length → r < k → x.length = l.length → (∀ j, j < i → x[j]? = (l.map conv)[j]?) → laws_toRangeS.l0 k l x (i : Int) = some (l.map conv) := by
 intro r
 induction r with
 | zero =>
   intro i k x hi hk hx hj
   obtain ⟨k, rfl⟩ : ∃ k', k = k' + 1 := ⟨k - 1, by omega⟩
   rw [laws_toRangeS.l0, if_neg (by omega)]
   congr 1
   apply List.ext_getElem?
   intro j
   by_cases h : j < i
   · exact hj j h
   · rw [List.getElem?_eq_none (by omega), List.getElem?_eq_none (by simp; omega)]
 | succ r ih =>
   intro i k x hi hk hx hj
   obtain ⟨k, rfl⟩ : ∃ k', k = k' + 1 := ⟨k - 1, by omega⟩
   rw [laws_toRangeS.l0, if_pos (by omega), if_pos (by omega), laws_toRange.f, Option.bind_some, if_pos (by omega), w64s (by omega)]
   refine ih (i + 1) k _ (by omega) (by omega) (by simp [hx]) ?_
   intro j h
   rw [Int.toNat_natCast]
   by_cases hji : j = i
   · subst hji
     rw [List.getElem?_set_self (by omega), List.getElem?_map, List.getElem?_eq_getElem (by omega), rd24 (by omega)]; rfl
   · rw [List.getElem?_set_ne (by omega)]; exact hj j (by omega)
theorem toRangeS {l : List S24} (hl : l.length ≤ 1048576) {k : Nat} (hk : l.length < k) : laws_toRangeS.f k l = some (l.map conv) := by
 unfold laws_toRangeS.f
 rw [if_pos (by omega), Int.toNat_natCast, if_pos (by omega)]
 exact toRangeS0 hl l.length 0 k _ (by omega) hk (by simp) (fun j h => absurd h (by omega))
theorem eqRangeS0 {l : List S30} (hl : l.length ≤ 1099511627776) : ∀ r i k, i + r = l.length → r < k → laws_eqRangeS.l0 k l l (i : Int) = some true := by
 intro r
 induction r with
 | zero =>
   intro i k hi hk
   obtain ⟨k, rfl⟩ : ∃ k', k = k' + 1 := ⟨k - 1, by omega⟩
   rw [laws_eqRangeS.l0, if_neg (by omega)]
 | succ r ih =>
   intro i k hi hk
   obtain ⟨k, rfl⟩ : ∃ k', k = k' + 1 := ⟨k - 1, by omega⟩
   rw [laws_eqRangeS.l0, if_pos (by omega), if_pos (by omega), if_pos (by omega), laws_eqRange.f, if_pos rfl, if_pos rfl, Option.bind_some, if_pos rfl, w64s (by omega)]
   exact ih (i + 1) k (by omega) (by omega)
theorem eqRangeS {l : List S30} (hl : l.length ≤ 1099511627776) {k : Nat} (hk : l.length < k) : laws_eqRangeS.f k l l = some true := by
 unfold laws_eqRangeS.f
 rw [if_pos rfl]
 exact eqRangeS0 hl l.length 0 k (by omega) hk
theorem szRangeS {l : List S24} (hl : l.length ≤ 9223372036854775807) : laws_szRangeS.f l 1048576 = some (if l.length ≤ 1048576 then 1048576 - (l.length : Int) else -1) := by
 unfold laws_szRangeS.f
 rw [w64 (by omega) (by omega)]
 by_cases h : l.length ≤ 1048576
 · rw [if_neg (by omega), if_pos h]
 · rw [if_pos (by omega), if_neg h]
theorem lawFreeFirst {l : List S24} (hl : l.length ≤ 9223372036854775807) (a b least : Int) : ∃ k, laws_FnExactFreeFirst.f k l a b least = some true := by
 refine ⟨2 * l.length + 4, ?_⟩
 unfold laws_FnExactFreeFirst.f
 rw [szRangeS hl, Option.bind_some]
 by_cases h : l.length ≤ 1048576
 · rw [if_pos h, if_neg (by omega), toRangeS h (by omega)]
   have hm : (l.map conv).length = l.length := by simp
   simp only [Option.bind_some, laws_toRange.f]
   rw [specFirst (by omega) (by omega), Option.bind_some, implFirst (by omega) (by omega), Option.bind_some, if_pos rfl]
   rw [laws_FnExactFreeFirst.j0, bne_self_eq_false, if_neg (by simp), toRangeS h (by omega), Option.bind_some, eqRangeS (by omega) (by omega)]
   rfl
 · rw [if_neg h, if_pos (by omega)]
end Go.Proofs.Ytcoppnbjpncdcaa.PAll
end
section
namespace Go.Proofs.Ytcoppnbjpncdcaa.Laws
open Go Go.Joins Go.ChangeShapes Go.WideShapes Go.ChangeAt Go.RowKit Go.Conc Go.ConcM Go.Proofs.Ytcoppnbjpncdcaa.PAll Go.Proofs.Ytcoppnbjpncdcaa.Close Go.Proofs.YtcoppnbjpncdcaaW.PrintWords
set_option linter.unusedVariables false
theorem own : ownKnob Try.prog.godebug = none := by kernel_rfl
theorem laidOut : laidOutB Try.prog = true := by kernel_rfl
theorem exists_list {α : Type} {R : Nat → α → Prop} : ∀ n, (∀ i, i < n → ∃ x, R i x) → ∃ l : List α, l.length = n ∧ ∀ i x, l[i]? = some x → R i x := by
 intro n
 induction n with
 | zero => exact fun _ => ⟨[], rfl, fun i x h => by simp at h⟩
 | succ n ih =>
   intro h
   obtain ⟨l, hl, hr⟩ := ih fun i hi => h i (by omega)
   obtain ⟨x, hx⟩ := h n (by omega)
   refine ⟨l ++ [x], by simp [hl], fun i y hy => ?_⟩
   rcases Nat.lt_or_ge i l.length with hi | hi
   · rw [List.getElem?_append_left hi] at hy
     exact hr i y hy
   · have : i = l.length := by
       have := (List.getElem?_eq_some_iff.1 hy).1
       simp at this; omega
     subst this
     simp at hy
     rw [← hy, hl]; exact hx
section
variable {H : Type} {enc : TypeId × Value → H}
theorem reads24 {W : World} {A : Option Addr} {len cap : Nat} {d : DataW H} {p : List MemPlace} (h : DataW.Trod enc Try.prog W 0 (fun _ => true) true 22 (.slice A len cap) d p) :
   ∃ l : List S24, l.length = len ∧ len ≤ cap ∧ len ≤ 9223372036854775807 ∧ ∀ w : World, (∀ a, w.cell? a = W.cell? a) → Kd.C k24 w A len l := by
 obtain ⟨fuel, hf⟩ := h
 rcases DataW.trod_slice Try.underlying22 hf with ⟨hcs, _⟩ | ⟨ad, l, c, elems, rest, n, _, hcs, _, _, hlc, hcm, hel, hget, _⟩
 · simp [Value.cells] at hcs
   obtain ⟨rfl, rfl, rfl⟩ := hcs
   exact ⟨[], rfl, by omega, by omega, fun w _ => ⟨rfl, by omega, fun h => absurd h (by omega)⟩⟩
 · simp [Value.cells] at hcs
   obtain ⟨rfl, rfl, rfl⟩ := hcs
   have each : ∀ i, i < len → ∃ x : S24, W.cell? (ad.add (i * 2)) = some (.int .i64 x.f0) ∧ W.cell? (ad.add (i * 2 + 1)) = some (.int .i64 x.f1) := by
     intro i hi
     have h1 := hget i hi
     rw [List.getElem?_eq_getElem (by omega)] at h1
     obtain ⟨cs, hc, ht⟩ := Option.bind_eq_some_iff.1 h1
     rw [show Try.prog.cellsOf 24 = 2 by kernel_rfl] at hc
     obtain ⟨_, hl2, hcell⟩ := World.cells?_some hc
     obtain ⟨y0, y1, m, _, _, h0, h1⟩ := trod_struct2 Try.underlying24 ht
     obtain ⟨a, ha, _⟩ := DataW.trod_int Try.underlying3 h0
     obtain ⟨b, hb, _⟩ := DataW.trod_int Try.underlying3 h1
     rw [show Try.prog.cellsOf 3 = 1 by kernel_rfl] at ha hb
     obtain ⟨c0, c1, rfl⟩ : ∃ c0 c1, cs = [c0, c1] := by
       cases cs with
       | nil => cases hl2
       | cons c0 cs =>
         cases cs with
         | nil => cases hl2
         | cons c1 cs =>
           cases cs with
           | nil => exact ⟨_, _, rfl⟩
           | cons _ _ => simp at hl2
     · simp at ha hb
       subst ha hb
       refine ⟨⟨a, b⟩, ?_, ?_⟩
       · have := hcell 0 (by omega)
         rw [Go.Deep.add_add, Nat.add_zero] at this
         exact this
       · have := hcell 1 (by omega)
         rw [Go.Deep.add_add] at this
         exact this
   obtain ⟨xs, hxl, hx⟩ := exists_list len each
   have hm : len ≤ 9223372036854775807 := by unfold maxLen at hcm; omega
   refine ⟨xs, hxl, hlc, hm, fun w hw => ⟨hxl, hm, fun _ => ⟨ad, rfl, fun j q hj => ?_⟩⟩⟩
   obtain ⟨e0, e1⟩ := hx j q hj
   refine ⟨_, rfl, k24_mk w q, fun i u hi => ?_⟩
   rw [hw]
   show W.cell? (ad.add (j * 2 + i)) = some u
   match i with
   | 0 => simp at hi; rw [← hi]; exact e0
   | 1 => simp at hi; rw [← hi]; exact e1
   | i + 2 => simp at hi
theorem runs_of_calls {f : FuncId} {fn : Func} {c : Code} {s : ChangeSpec} {args : Array Value} {W : World} (hS : Tp.prog.funcs[f]? = some fn) (hP : Try.prog.funcs[f]? = some fn) (hb : fn.body = some c) (hok : Sim.okCode Tp.prog c = true) (hsz : args.size ≤ fn.ntmps)
   (hC : ∀ w : World, (∀ a, w.cell? a = W.cell? a) → Calls Tp.prog f args w fun e w' => e = .returned (.bool true) ∧ Below w.heap.size w w')
   (hpost : ∀ W' : World, Below W.heap.size W W' → s.post enc Try.prog fn false true false false W args (.bool true) W') :
   ∃ M last o w' t', runNT Try.prog (M + 1) (solo (G (Frame.enter Try.prog f args .normal) []) W) #[] = (.ended o w', t') ∧ runN Try.prog M (solo (G (Frame.enter Try.prog f args .normal) []) W) = .next last ∧
     step Try.prog last = .ended o w' ∧ Conc.Good Try.prog (fun v W' => s.post enc Try.prog fn false true false false W args v { W' with os := W.os } ∧ OsLater W.os W'.os) last o w' t' := by
 obtain ⟨N, last, o, w', t', r1, r2, r3, v, e, hp, g1, g2, g3, g4⟩ := ends_well hS hP hb hok hsz (W := W) (fun τ => by
   have := hC ((veil W).re τ) (fun a => veil_cell W a)
   rw [show ((veil W).re τ).heap.size = W.heap.size from veil_size W] at this
   exact this)
 obtain ⟨rfl, hB, hos⟩ := postP_below hp
 refine ⟨N, last, o, w', t', r1, r2, r3, _, e, ⟨?_, hos⟩, g1, g2, g3, g4⟩
 obtain ⟨ds, gs, before, pr, pa, pv, h1, h2, h3, h4, h5, _⟩ := hpost _ hB
 exact ⟨ds, gs, before, pr, pa, pv, h1, h2.of_heap (by rfl), h3.of_heap (by rfl), h4.of_heap (by rfl), h5, fun h => by cases h⟩
end
set_option maxRecDepth 100000 in
theorem freeFirst_lifted (os : Os) (started : os.Started) (H : Type) (enc : TypeId × Value → H) (F : Stop.Interp) :
   ReturnsInLeavingWide Rows.fnExactFreeFirstRow.assume Try.checked os 3 .any (Rows.fnExactFreeFirstSpec.pre6 enc Try.prog Try.f3 Rows.fnExactFreeFirstRow.domain false) ((OpenSpec.ofChange Rows.fnExactFreeFirstSpec).postWith enc Try.prog Try.f3 F (outsideKept [.timePasses]) false true false) := by
 refine returnsInLeavingWide_of_change_time (C := Try.checked) own started Try.func3
   (ChangeSpec.witness6c (enc := enc) (C := Try.checked) ⟨#[], #[.slice none 0 0, .agg #[.int .i64 0, .int .i64 0], .int .i64 0], []⟩ 8 (by kernel_rfl) (by kernel_rfl) (by kernel_rfl) (by kernel_rfl)) ?_
 intro W base args ds gs before hval0 hW _ _ _
 have hval : ∀ (j : Nat) t v, Try.f3.params[j]? = some t → args[j]? = some v → Value.okWide Try.prog W .any base t v := hval0
 have hW' := hW
 obtain ⟨p, q, hA0, hV, rfl, _, _⟩ := hW
 have hA : DataW.TrodAll enc Try.prog W 0 (fun _ => true) true Try.f3.params.toList args.toList ds p := hA0
 rw [Try.params3] at hA hval
 obtain ⟨v0, vs0, d0, ds0, p0, q0, hargs, rfl, rfl, h0, r0⟩ := trodAll_cons hA
 obtain ⟨v1, vs1, d1, ds1, p1, q1, hargs1, rfl, rfl, h1, r1⟩ := trodAll_cons r0
 obtain ⟨v2, vs2, d2, ds2, p2, q2, hargs2, rfl, rfl, h2, r2⟩ := trodAll_cons r1
 obtain ⟨rfl, rfl, rfl⟩ := trodAll_nil r2
 obtain rfl : args = #[v0, v1, v2] := by cases args; simp_all
 obtain ⟨rfl, rfl⟩ := trodVars_none hV
 obtain ⟨a0, len0, cap0, rfl⟩ := okWide_slice Try.underlying22 (hval 0 22 v0 rfl rfl)
 have lt0 : ∀ x ∈ p0, x.block < W.heap.size := by obtain ⟨m, hm⟩ := h0; exact DataW.trod_lt m _ _ _ hm
 have lt1 : ∀ x ∈ p1, x.block < W.heap.size := by obtain ⟨m, hm⟩ := h1; exact DataW.trod_lt m _ _ _ hm
 have lt2 : ∀ x ∈ p2, x.block < W.heap.size := by obtain ⟨m, hm⟩ := h2; exact DataW.trod_lt m _ _ _ hm
 obtain ⟨l, rfl, hcap, hmax, hC⟩ := reads24 h0
 have k1 := h1
 have k2 := h2
 obtain ⟨u0, u1, y0, y1, n, rfl, rfl, rfl, t0, t1⟩ := open_agg2 Try.underlying24 (by kernel_rfl) (by kernel_rfl) (hval 1 24 v1 rfl rfl) h1
 obtain ⟨a, ha, _⟩ := DataW.trod_int Try.underlying3 t0
 obtain ⟨b, hb, _⟩ := DataW.trod_int Try.underlying3 t1
 simp at ha hb
 subst ha hb
 obtain ⟨least, rfl, rfl, rfl, _⟩ := open_int Try.underlying3 (hval 2 3 v2 rfl rfl) h2
 obtain ⟨k, hk⟩ := lawFreeFirst (l := l) hmax a b least
 refine runs_of_calls (f := 3) (fn := Try.f3) (c := Try.f3.body.getD .skip) Tp.func3 Try.func3 (by kernel_rfl) (by kernel_rfl) (by show 3 ≤ Try.f3.ntmps; rw [Try.ntmps3]; omega)
   (fun w hw => laws_FnExactFreeFirst.calls k a0 cap0 l a b least true w (hC w hw) hcap hk) ?_
 intro W' bel
 exact ⟨_, _, _, [], _, [], hW', trodAll_mk1 (shut_bool Try.underlying4 _), (trodAll_cons_mk (Below.trod laidOut (by kernel_rfl) (of_decide_eq_true (by kernel_rfl)) h0 bel lt0) (trodAll_cons_mk (Below.trod laidOut (by kernel_rfl) (of_decide_eq_true (by kernel_rfl)) k1 bel lt1) (trodAll_cons_mk (Below.trod laidOut (by kernel_rfl) (of_decide_eq_true (by kernel_rfl)) k2 bel lt2) trodAll_mk0))), rfl, bel.frame _, fun h => by cases h⟩
theorem fnExactFreeFirst_holds : Rows.FnExactFreeFirstSaid :=
 OpenClaim.holds_of_wide_leaving_time 3 Try.f3 rfl rfl rfl rfl rfl rfl rfl ⟨rfl, rfl, rfl, rfl, rfl⟩ rfl rfl rfl rfl rfl (by kernel_rfl) Try.func3 (by kernel_rfl)
   (of_decide_eq_true (by kernel_rfl)) (by unfold Func.isWrapper; first | (rw [if_pos (by decide +kernel)]; kernel_rfl) | (rw [if_neg (by decide +kernel)]; exact ⟨rfl, rfl⟩))
   (fun os started H enc _ F => freeFirst_lifted os started H enc F)
end Go.Proofs.Ytcoppnbjpncdcaa.Laws
end
namespace Go.Proofs.Ytcoppnbjpncdcaa
theorem fnExactFreeFirst_holds : Rows.FnExactFreeFirstSaid := Laws.fnExactFreeFirst_holds
end Go.Proofs.Ytcoppnbjpncdcaa
#print axioms Go.Proofs.Ytcoppnbjpncdcaa.fnExactFreeFirst_holds
