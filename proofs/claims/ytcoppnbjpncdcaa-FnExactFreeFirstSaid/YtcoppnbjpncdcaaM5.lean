/-
  Part 5 of the proof (merged out of the texts of wip: PAllx3, PAllx4, PAllx5, PAllx6, QFwd, QFwd2, QFwd3).
-/
import Derived.Test.YtcoppnbjpncdcaaM4
section
namespace Go.Proofs.Ytcoppnbjpncdcaa.PAll
open Go.RowKit Go.Proofs.YtcoppnbjpncdcaaW.PrintWords Go.Proofs.YtcoppnbjpncdcaaW.PrintLast Go.Proofs.YtcoppnbjpncdcaaW.PrintMore
set_option linter.unusedVariables false
set_option linter.unusedSimpArgs false
abbrev q3_b0 : Array Bool := #[false, false, false, false, false, false, false, false, false, false, false, false, false, false, false, false, false, false, false, false, false, false, false, false]
abbrev q3_b1 : Array Bool := #[true, false, false, false, false, false, false, false, false, false, false, false, false, false, false, false, false, false, false, false, false, false, false, false]
abbrev q3_b2 : Array Bool := #[true, true, false, false, false, false, false, false, false, false, false, false, false, false, false, false, false, false, false, false, false, false, false, false]
abbrev q3_b3 : Array Bool := #[true, true, true, false, false, false, false, false, false, false, false, false, false, false, false, false, false, false, false, false, false, false, false, false]
abbrev q3_b4 : Array Bool := #[true, true, true, true, false, false, false, false, false, false, false, false, false, false, false, false, false, false, false, false, false, false, false, false]
abbrev q3_b5 : Array Bool := #[true, true, true, true, true, false, false, false, false, false, false, false, false, false, false, false, false, false, false, false, false, false, false, false]
abbrev q3_b6 : Array Bool := #[true, true, true, true, true, true, false, false, false, false, false, false, false, false, false, false, false, false, false, false, false, false, false, false]
abbrev q3_b7 : Array Bool := #[true, true, true, true, true, true, true, false, false, false, false, false, false, false, false, false, false, false, false, false, false, false, false, false]
abbrev q3_b8 : Array Bool := #[true, true, true, true, true, true, true, true, false, false, false, false, false, false, false, false, false, false, false, false, false, false, false, false]
abbrev q3_b9 : Array Bool := #[true, true, true, true, true, true, true, true, true, false, false, false, false, false, false, false, false, false, false, false, false, false, false, false]
abbrev q3_b10 : Array Bool := #[true, true, true, true, true, true, true, true, true, true, false, false, false, false, false, false, false, false, false, false, false, false, false, false]
abbrev q3_b11 : Array Bool := #[true, true, true, true, true, true, true, true, true, true, true, false, false, false, false, false, false, false, false, false, false, false, false, false]
abbrev q3_b12 : Array Bool := #[true, true, true, true, true, true, true, true, true, true, true, true, false, false, false, false, false, false, false, false, false, false, false, false]
abbrev q3_b13 : Array Bool := #[true, true, true, true, true, true, true, true, true, true, true, true, true, false, false, false, false, false, false, false, false, false, false, false]
abbrev q3_b14 : Array Bool := #[true, true, true, true, true, true, true, true, true, true, true, true, true, true, false, false, false, false, false, false, false, false, false, false]
abbrev q3_b15 : Array Bool := #[true, true, true, true, true, true, true, true, true, true, true, true, true, true, true, false, false, false, false, false, false, false, false, false]
abbrev q3_b16 : Array Bool := #[true, true, true, true, true, true, true, true, true, true, true, true, true, true, true, false, true, false, false, false, false, false, false, false]
abbrev q3_b17 : Array Bool := #[true, true, true, true, true, true, true, true, true, true, true, true, true, true, true, false, true, true, false, false, false, false, false, false]
abbrev q3_b18 : Array Bool := #[true, true, true, true, true, true, true, true, true, true, true, true, true, true, true, false, true, true, true, false, false, false, false, false]
abbrev q3_b19 : Array Bool := #[true, true, true, true, true, true, true, true, true, true, true, true, true, true, true, false, true, true, true, true, false, false, false, false]
abbrev q3_b20 : Array Bool := #[true, true, true, true, true, true, true, true, true, true, true, true, true, true, true, true, true, true, true, true, false, false, false, false]
abbrev q3_b21 : Array Bool := #[true, true, true, true, true, true, true, true, true, true, true, true, true, true, true, true, true, true, true, true, true, false, false, false]
abbrev q3_b22 : Array Bool := #[true, true, true, true, true, true, true, true, true, true, true, true, true, true, true, true, true, true, true, true, true, true, false, false]
abbrev q3_b23 : Array Bool := #[true, true, true, true, true, true, true, true, true, true, true, true, true, true, true, true, true, true, true, true, true, true, true, false]
abbrev q3_b24 : Array Bool := #[true, true, true, true, true, true, true, true, true, true, true, true, true, true, true, true, true, true, true, true, true, true, true, true]
abbrev q3_b25 : Array Bool := #[true, true, true, true, true, true, true, true, true, true, true, true, true, true, true, true, false, false, false, false, false, false, false, false]
abbrev q3_b26 : Array Bool := #[true, true, true, true, true, true, true, true, true, true, true, true, true, true, true, true, true, false, false, false, false, false, false, false]
abbrev q3_b27 : Array Bool := #[true, true, true, true, true, true, true, true, true, true, true, true, true, true, true, true, true, true, false, false, false, false, false, false]
abbrev q3_b28 : Array Bool := #[true, true, true, true, true, true, true, true, true, true, true, true, true, true, true, true, true, true, true, false, false, false, false, false]
def spec_l32Ascend.l0 : Nat → List (S30) → Int → Option (Bool)
 | 0, _, _ => none
 | k + 1, x0, x3 => if x3 < (x0.length : Int) then (if 0 ≤ x3 then ((spec_l32Range.f ((rd_T30 x0 x3).f0) ((rd_T30 x0 x3).f1)).bind fun t106 => (if t106 = true then (if x3 > 0 then (if 0 ≤ (wrap64 (x3 - 1)) then (if (wrap64 (x3 - 1)) < (x0.length : Int) then (if ((rd_T30 x0 (wrap64 (x3 - 1))).f1) ≥ ((rd_T30 x0 x3).f0) then (some false) else (spec_l32Ascend.l0 k x0 (wrap64 (x3 + 1)))) else (none)) else (none)) else (spec_l32Ascend.l0 k x0 (wrap64 (x3 + 1)))) else (some false))) else (none)) else (some true)
def spec_l32Ascend.f (k : Nat) (l0 : List (S30)) : Option (Bool) := spec_l32Ascend.l0 k l0 0
def spec_l32Ascend.T4 : Bool × List (List Nat × List Nat) := (true, [([], []), ([], []), ([0, 1], [0, 1]), ([2], [2]), ([3], [3]), ([4], [4]), ([5, 4], [5]), ([6], [6]), ([7, 6], [6, 7]), ([8, 6, 6], [6, 8]), ([9], [9]), ([9], [9]), ([11, 9], [9, 11]), ([10, 12, 9], [9, 10, 12]), ([13, 9], [9, 13]), ([14, 9], [9, 14]), ([9], [9]), ([9], [9]), ([16, 17, 9], [9, 16, 17]), ([18, 9], [9, 18]), ([19, 9], [9, 19]), ([15, 20, 9], [9, 15, 20]), ([9, 21, 6], [6, 9, 21]), ([6, 22], [6, 22])])
def spec_l32Ascend.B4 : List Nat := [0, 0, 3, 7, 15, 31, 63, 127, 255, 511, 1023, 1023, 3071, 8191, 16383, 32767, 1023, 1023, 197631, 459775, 984063, 2097151, 4194303, 8388607]
theorem spec_l32Ascend.tab4 : rtab .any (opsOf Try.f44 4) = spec_l32Ascend.T4 := by kernel_rfl
theorem spec_l32Ascend.bits4 : waitsOk spec_l32Ascend.T4.2 spec_l32Ascend.B4 = true := by kernel_rfl
set_option maxHeartbeats 8000000 in
set_option maxRecDepth 100000 in
theorem spec_l32Ascend.calls (k : Nat) (A0 : Option Addr) (c0 : Nat) (l0 : List (S30)) (r : Bool) (w : World) (hr0 : Kd.C k30 w A0 l0.length l0) (hc0 : l0.length ≤ c0) (h : spec_l32Ascend.f k l0 = some r) :
   Calls Tp.prog 44 #[.slice A0 l0.length c0] w fun e w' => e = .returned (.bool r) ∧ Below w.heap.size w w' := by
 have hu30 := Tp.underlying30
 have HR0 := Aside0.mk hr0
 have HC0 := Aside0.mk hc0
 clear hr0 hc0
 have HB := Aside0.mk (Below.refl w.heap.size w)
 have H : (spec_l32Ascend.l0 k l0 0) = some r := h
 clear h
 have H' := Aside0.mk H
 clear H
 go_enter Tp.func44, Try.ntmps44
 go_wp2
 go_loopg [3] k (fun kq v3 w' => ∃ (x3_1 : Int), v3 = .int .i64 x3_1 ∧ Aside0 (spec_l32Ascend.l0 kq l0 x3_1 = some r) ∧ Aside0 (kq ≤ k) ∧ Aside0 (Below w.heap.size w w'))
 case atStart => exact ⟨(0), (by (rfl)), H', ⟨Nat.le_refl _⟩, ⟨HB.out⟩⟩
 case round =>
   clear H'
   obtain ⟨x3_1, rfl, HA, HK1, HB⟩ := hrel
   cases gk with
   | zero => exact absurd HA.out (by simp [spec_l32Ascend.l0])
   | succ k1 =>
     have H := HA.out
     clear HA
     simp only [spec_l32Ascend.l0] at H
     by_cases c2 : x3_1 < (l0.length : Int)
     · rw [if_pos c2] at H
       have c2b0 : decide (x3_1 < (l0.length : Int)) = true := decide_eq_true c2
       clear c2
       by_cases c3 : 0 ≤ x3_1
       · rw [if_pos c3] at H
         have c3b0 : decide (0 ≤ x3_1) = true := decide_eq_true c3
         clear c3
         replace H := Option.bind_eq_some_iff.mp H
         obtain ⟨t106, A40, H⟩ := H
         replace H : (if t106 = true then (if x3_1 > 0 then (if 0 ≤ (wrap64 (x3_1 - 1)) then (if (wrap64 (x3_1 - 1)) < (l0.length : Int) then (if ((rd_T30 l0 (wrap64 (x3_1 - 1))).f1) ≥ ((rd_T30 l0 x3_1).f0) then (some false) else (spec_l32Ascend.l0 k1 l0 (wrap64 (x3_1 + 1)))) else (none)) else (none)) else (spec_l32Ascend.l0 k1 l0 (wrap64 (x3_1 + 1)))) else (some false)) = some r := H
         have A4 := Aside0.mk A40
         clear A40
         by_cases c5 : t106 = true
         · subst c5
           have H1 : (if x3_1 > 0 then (if 0 ≤ (wrap64 (x3_1 - 1)) then (if (wrap64 (x3_1 - 1)) < (l0.length : Int) then (if ((rd_T30 l0 (wrap64 (x3_1 - 1))).f1) ≥ ((rd_T30 l0 x3_1).f0) then (some false) else (spec_l32Ascend.l0 k1 l0 (wrap64 (x3_1 + 1)))) else (none)) else (none)) else (spec_l32Ascend.l0 k1 l0 (wrap64 (x3_1 + 1)))) = some r := by rw [if_pos rfl] at H; exact H
           clear H
           have H := H1
           clear H1
           by_cases c6 : x3_1 > 0
           · rw [if_pos c6] at H
             have c6b0 : decide (0 < x3_1) = true := decide_eq_true c6
             clear c6
             obtain ⟨ji7, hji7⟩ : ∃ j_ : Int, (wrap64 (x3_1 - 1)) = j_ := ⟨_, rfl⟩
             replace H : (if 0 ≤ (ji7) then (if (ji7) < (l0.length : Int) then (if ((rd_T30 l0 (ji7)).f1) ≥ ((rd_T30 l0 x3_1).f0) then (some false) else (spec_l32Ascend.l0 k1 l0 (wrap64 (x3_1 + 1)))) else (none)) else (none)) = some r := by ((rw [hji7] at H; exact H))
             (try rw [hji7] at A4)
             have hji7w : (IntKind.i64.wrap (x3_1 - 1)) = ji7 := (i64_w _).trans hji7
             by_cases c8 : 0 ≤ (ji7)
             · rw [if_pos c8] at H
               have c8b0 : decide (0 ≤ (ji7)) = true := decide_eq_true c8
               clear c8
               by_cases c9 : (ji7) < (l0.length : Int)
               · rw [if_pos c9] at H
                 have c9b0 : decide ((ji7) < (l0.length : Int)) = true := decide_eq_true c9
                 clear c9
                 by_cases c10 : ((rd_T30 l0 (ji7)).f1) ≥ ((rd_T30 l0 x3_1).f0)
                 · rw [if_pos c10] at H
                   have c10b0 : decide (((rd_T30 l0 x3_1).f0) ≤ ((rd_T30 l0 (ji7)).f1)) = true := decide_eq_true c10
                   clear c10
                   obtain rfl := Option.some.inj H
                   try go_wp2
                   have n0_ := Aside0.mk (below_drew1 HB.out)
                   clear HB
                   have HB := n0_
                   clear n0_
                   have p105 : 0 ≤ (x3_1 : Int) := of_decide_eq_true (by with_reducible assumption)
                   have q105 : x3_1 < (l0.length : Int) := of_decide_eq_true (by with_reducible assumption)
                   obtain ⟨ad105, e105, hx105_0, hx105_1⟩ := at_T30 HR0.out x3_1 p105 q105
                   have hw105_1 := hx105_1
                   have hw105_0 := hx105_0
                   cases e105
                   replace hx105_0 := (HB.out.cell (World.block_lt_of_cell? w _ hx105_0)).trans hx105_0
                   replace hx105_1 := (HB.out.cell (World.block_lt_of_cell? w _ hx105_1)).trans hx105_1
                   replace p105 := eq_true p105
                   replace q105 := eq_true q105
                   have p107 : 0 ≤ ((ji7) : Int) := of_decide_eq_true (by with_reducible assumption)
                   have q107 : (ji7) < (l0.length : Int) := of_decide_eq_true (by with_reducible assumption)
                   obtain ⟨ad107, e107, hx107_0, hx107_1⟩ := at_T30 HR0.out (ji7) p107 q107
                   have hw107_1 := hx107_1
                   have hw107_0 := hx107_0
                   obtain rfl : ad105 = ad107 := (by injection e107)
                   replace hx107_0 := (HB.out.cell (World.block_lt_of_cell? w _ hx107_0)).trans hx107_0
                   replace hx107_1 := (HB.out.cell (World.block_lt_of_cell? w _ hx107_1)).trans hx107_1
                   replace p107 := eq_true p107
                   replace q107 := eq_true q107
                   have p108 : 0 ≤ (x3_1 : Int) := of_decide_eq_true (by with_reducible assumption)
                   have q108 : x3_1 < (l0.length : Int) := of_decide_eq_true (by with_reducible assumption)
                   obtain ⟨ad108, e108, hx108_0, hx108_1⟩ := at_T30 HR0.out x3_1 p108 q108
                   have hw108_1 := hx108_1
                   have hw108_0 := hx108_0
                   obtain rfl : ad105 = ad108 := (by injection e108)
                   replace hx108_0 := (HB.out.cell (World.block_lt_of_cell? w _ hx108_0)).trans hx108_0
                   replace hx108_1 := (HB.out.cell (World.block_lt_of_cell? w _ hx108_1)).trans hx108_1
                   replace p108 := eq_true p108
                   replace q108 := eq_true q108
                   refine start_ (n := 24) (S := fun w' => w'.cell? (ad105.add ((x3_1).toNat * 2)) = some (.int .i64 ((rd_T30 l0 x3_1).f0)) ∧ w'.cell? ⟨(ad105.add ((x3_1).toNat * 2)).block, (ad105.add ((x3_1).toNat * 2)).off + 1, none⟩ = some (.int .i64 ((rd_T30 l0 x3_1).f1)) ∧ w'.cell? (ad105.add (((ji7)).toNat * 2)) = some (.int .i64 ((rd_T30 l0 (ji7)).f0)) ∧ w'.cell? ⟨(ad105.add (((ji7)).toNat * 2)).block, (ad105.add (((ji7)).toNat * 2)).off + 1, none⟩ = some (.int .i64 ((rd_T30 l0 (ji7)).f1)) ∧ w'.cell? (ad105.add ((x3_1).toNat * 2)) = some (.int .i64 ((rd_T30 l0 x3_1).f0)) ∧ w'.cell? ⟨(ad105.add ((x3_1).toNat * 2)).block, (ad105.add ((x3_1).toNat * 2)).off + 1, none⟩ = some (.int .i64 ((rd_T30 l0 x3_1).f1))) (ds := []) q3_b0 (by kernel_rfl) rfl rfl ⟨((HB.out.cell (World.block_lt_of_cell? w _ hw105_0)).trans hw105_0), ((HB.out.cell (World.block_lt_of_cell? w _ hw105_1)).trans hw105_1), ((HB.out.cell (World.block_lt_of_cell? w _ hw107_0)).trans hw107_0), ((HB.out.cell (World.block_lt_of_cell? w _ hw107_1)).trans hw107_1), ((HB.out.cell (World.block_lt_of_cell? w _ hw108_0)).trans hw108_0), ((HB.out.cell (World.block_lt_of_cell? w _ hw108_1)).trans hw108_1)⟩ (fun hHeld => ?_); refine with_tabW spec_l32Ascend.tab4 spec_l32Ascend.bits4 (fun HT_ HW_ => ?_)
                   generalize wr.drew = w11 at HB hx105_0 hx105_1 hx107_0 hx107_1 hx108_0 hx108_1 hHeld ⊢
                   refine pure_ (i := 0) (N := some 10) (v := ?_) (a' := ?_) q3_b1 rfl rfl (any_of HT_.out (by kernel_rfl)) (fun _ _ _ h => h) (Or.inl ⟨by rfl, ?_⟩) ?_ ?_
                   rotate_left
                   · intro w'
                     go_simp
                     with_reducible rfl
                   rotate_left
                   · simp only [Act.put, zs]
                     rfl
                   refine pure_ (i := 1) (N := some 11) (v := ?_) (a' := ?_) q3_b2 rfl rfl (any_of HT_.out (by kernel_rfl)) (fun _ _ _ h => h) (Or.inl ⟨by rfl, ?_⟩) ?_ ?_
                   rotate_left
                   · intro w'
                     go_simp
                     with_reducible rfl
                   rotate_left
                   · simp only [Act.put, zs]
                     rfl
                   refine pure_ (i := 2) (N := some 12) (v := ?_) (a' := ?_) q3_b3 rfl rfl (any_of HT_.out (by kernel_rfl)) (fun _ _ _ h => h) (Or.inl ⟨by rfl, ?_⟩) ?_ ?_
                   rotate_left
                   · intro w'
                     go_simp
                     with_reducible rfl
                   rotate_left
                   · simp only [Act.put, zs]
                     rfl
                   refine take_ (i := 3) (N := some 13) (v := ?_) (a' := ?_) q3_b4 rfl rfl (take_ofW HT_.out HW_.out (by kernel_rfl)) (fun _ _ _ h => h) (Or.inl ⟨by rfl, ?_⟩) hHeld ?_ ?_
                   rotate_left
                   · rintro w' ⟨s0, s1, s2, s3, s4, s5⟩
                     go_simp
                     with_reducible rfl
                   rotate_left
                   · simp only [Act.put, zs]
                     rfl
                   refine one_ (i := 4) (N := some 14) q3_b5 rfl rfl (one_of HT_.out (by kernel_rfl)) (by decide) (fun K hK => ?_)
                   refine goes_ Tp.func57 (by kernel_rfl) rfl #[.agg #[.int .i64 ((rd_T30 l0 x3_1).f0), .int .i64 ((rd_T30 l0 x3_1).f1)]] (by rfl) rfl rfl (by (try simp only [List.map_toArray, List.map_cons, List.map_nil]); (rfl)) ?_
                   with_reducible refine (spec_l32Range.calls ((rd_T30 l0 x3_1).f0) ((rd_T30 l0 x3_1).f1) true _ A4.out).mono ?_
                   rintro e w12 ⟨rfl, hb⟩
                   refine ⟨_, rfl, ?_⟩
                   have n0_ := Aside0.mk (below_step HB.out hb)
                   clear HB
                   have HB := n0_
                   clear n0_
                   (try clear hb)
                   (try clear hb2)
                   (try clear hk)
                   (try clear hi)
                   refine hK.out _ _ ⟨((HB.out.cell (World.block_lt_of_cell? w _ hw105_0)).trans hw105_0), ((HB.out.cell (World.block_lt_of_cell? w _ hw105_1)).trans hw105_1), ((HB.out.cell (World.block_lt_of_cell? w _ hw107_0)).trans hw107_0), ((HB.out.cell (World.block_lt_of_cell? w _ hw107_1)).trans hw107_1), ((HB.out.cell (World.block_lt_of_cell? w _ hw108_0)).trans hw108_0), ((HB.out.cell (World.block_lt_of_cell? w _ hw108_1)).trans hw108_1)⟩ (fun hHeld => ?_)
                   clear hK K
                   refine norm_ (a' := ?_) ?_ ?_
                   rotate_left
                   · show Act.put _ (some 14) _ = _
                     simp only [Act.put, zs]
                     rfl
                   refine pure_ (i := 5) (N := some 15) (v := ?_) (a' := ?_) q3_b6 rfl rfl (any_of HT_.out (by kernel_rfl)) (fun _ _ _ h => h) (Or.inl ⟨by rfl, ?_⟩) ?_ ?_
                   rotate_left
                   · intro w'
                     go_simp
                     with_reducible rfl
                   rotate_left
                   · simp only [Act.put, zs]
                     rfl
                   refine pure_ (i := 6) (N := some 16) (v := ?_) (a' := ?_) q3_b7 rfl rfl (any_of HT_.out (by kernel_rfl)) (fun _ _ _ h => h) (Or.inl ⟨by rfl, ?_⟩) ?_ ?_
                   rotate_left
                   · intro w'
                     go_simp
                     with_reducible rfl
                   rotate_left
                   · simp only [Act.put, zs]
                     rfl
                   refine pure_ (i := 7) (N := some 17) (v := ?_) (a' := ?_) q3_b8 rfl rfl (any_of HT_.out (by kernel_rfl)) (fun _ _ _ h => h) (Or.inl ⟨by rfl, ?_⟩) ?_ ?_
                   rotate_left
                   · intro w'
                     go_simp
                     with_reducible rfl
                   rotate_left
                   · simp only [Act.put, zs]
                     rfl
                   refine pure_ (i := 8) (N := some 18) (v := ?_) (a' := ?_) q3_b9 rfl rfl (any_of HT_.out (by kernel_rfl)) (fun _ _ _ h => h) (Or.inl ⟨by rfl, ?_⟩) ?_ ?_
                   rotate_left
                   · intro w'
                     go_simp
                     with_reducible rfl
                   rotate_left
                   · simp only [Act.put, zs]
                     rfl
                   refine pure_ (i := 9) (N := some 19) (v := ?_) (a' := ?_) q3_b10 rfl rfl (any_of HT_.out (by kernel_rfl)) (fun _ _ _ h => h) (Or.inl ⟨by rfl, ?_⟩) ?_ ?_
                   rotate_left
                   · intro w'
                     go_simp
                     with_reducible rfl
                   rotate_left
                   · simp only [Act.put, zs]
                     rfl
                   refine pure_ (i := 10) (N := some 20) (v := ?_) (a' := ?_) q3_b11 rfl rfl (any_of HT_.out (by kernel_rfl)) (fun _ _ _ h => h) (Or.inl ⟨by rfl, ?_⟩) ?_ ?_
                   rotate_left
                   · intro w'
                     go_simp
                     with_reducible rfl
                   rotate_left
                   · simp only [Act.put, zs]
                     rfl
                   refine pure_ (i := 11) (N := some 21) (v := ?_) (a' := ?_) q3_b12 rfl rfl (any_of HT_.out (by kernel_rfl)) (fun _ _ _ h => h) (Or.inl ⟨by rfl, ?_⟩) ?_ ?_
                   rotate_left
                   · intro w'
                     go_simp
                     with_reducible rfl
                   rotate_left
                   · simp only [Act.put, zs]
                     rfl
                   refine pure_ (i := 12) (N := some 22) (v := ?_) (a' := ?_) q3_b13 rfl rfl (any_of HT_.out (by kernel_rfl)) (fun _ _ _ h => h) (Or.inl ⟨by rfl, ?_⟩) ?_ ?_
                   rotate_left
                   · intro w'
                     go_simp
                     with_reducible rfl
                   rotate_left
                   · simp only [Act.put, zs]
                     rfl
                   refine pure_ (i := 13) (N := some 23) (v := ?_) (a' := ?_) q3_b14 rfl rfl (any_of HT_.out (by kernel_rfl)) (fun _ _ _ h => h) (Or.inl ⟨by rfl, ?_⟩) ?_ ?_
                   rotate_left
                   · intro w'
                     go_simp
                     with_reducible rfl
                   rotate_left
                   · simp only [Act.put, zs]
                     rfl
                   refine pure_ (i := 14) (N := some 24) (v := ?_) (a' := ?_) q3_b15 rfl rfl (any_of HT_.out (by kernel_rfl)) (fun _ _ _ h => h) (Or.inl ⟨by rfl, ?_⟩) ?_ ?_
                   rotate_left
                   · intro w'
                     go_simp
                     with_reducible rfl
                   rotate_left
                   · simp only [Act.put, zs]
                     rfl
                   refine pure_ (i := 16) (N := some 26) (v := ?_) (a' := ?_) q3_b16 rfl rfl (any_of HT_.out (by kernel_rfl)) (fun _ _ _ h => h) (Or.inl ⟨by rfl, ?_⟩) ?_ ?_
                   rotate_left
                   · intro w'
                     go_simp
                     with_reducible rfl
                   rotate_left
                   · simp only [Act.put, zs]
                     rfl
                   refine pure_ (i := 17) (N := some 27) (v := ?_) (a' := ?_) q3_b17 rfl rfl (any_of HT_.out (by kernel_rfl)) (fun _ _ _ h => h) (Or.inl ⟨by rfl, ?_⟩) ?_ ?_
                   rotate_left
                   · intro w'
                     go_simp
                     with_reducible rfl
                   rotate_left
                   · simp only [Act.put, zs]
                     rfl
                   refine pure_ (i := 18) (N := some 28) (v := ?_) (a' := ?_) q3_b18 rfl rfl (any_of HT_.out (by kernel_rfl)) (fun _ _ _ h => h) (Or.inl ⟨by rfl, ?_⟩) ?_ ?_
                   rotate_left
                   · intro w'
                     go_simp
                     with_reducible rfl
                   rotate_left
                   · simp only [Act.put, zs]
                     rfl
                   refine pure_ (i := 19) (N := some 29) (v := ?_) (a' := ?_) q3_b19 rfl rfl (any_of HT_.out (by kernel_rfl)) (fun _ _ _ h => h) (Or.inl ⟨by rfl, ?_⟩) ?_ ?_
                   rotate_left
                   · intro w'
                     go_simp
                     with_reducible rfl
                   rotate_left
                   · simp only [Act.put, zs]
                     rfl
                   refine take_ (i := 15) (N := some 25) (v := ?_) (a' := ?_) q3_b20 rfl rfl (take_ofW HT_.out HW_.out (by kernel_rfl)) (fun _ _ _ h => h) (Or.inl ⟨by rfl, ?_⟩) hHeld ?_ ?_
                   rotate_left
                   · rintro w' ⟨s0, s1, s2, s3, s4, s5⟩
                     go_simp
                     with_reducible rfl
                   rotate_left
                   · simp only [Act.put, zs]
                     rfl
                   refine take_ (i := 20) (N := some 30) (v := ?_) (a' := ?_) q3_b21 rfl rfl (take_ofW HT_.out HW_.out (by kernel_rfl)) (fun _ _ _ h => h) (Or.inl ⟨by rfl, ?_⟩) hHeld ?_ ?_
                   rotate_left
                   · rintro w' ⟨s0, s1, s2, s3, s4, s5⟩
                     go_simp
                     with_reducible rfl
                   rotate_left
                   · simp only [Act.put, zs]
                     rfl
                   refine pure_ (i := 21) (N := some 31) (v := ?_) (a' := ?_) q3_b22 rfl rfl (any_of HT_.out (by kernel_rfl)) (fun _ _ _ h => h) (Or.inl ⟨by rfl, ?_⟩) ?_ ?_
                   rotate_left
                   · intro w'
                     go_simp
                     with_reducible rfl
                   rotate_left
                   · simp only [Act.put, zs]
                     rfl
                   refine pure_ (i := 22) (N := some 32) (v := ?_) (a' := ?_) q3_b23 rfl rfl (any_of HT_.out (by kernel_rfl)) (fun _ _ _ h => h) (Or.inl ⟨by rfl, ?_⟩) ?_ ?_
                   rotate_left
                   · intro w'
                     go_simp
                     with_reducible rfl
                   rotate_left
                   · simp only [Act.put, zs]
                     rfl
                   refine pure_ (i := 23) (N := some 33) (v := ?_) (a' := ?_) q3_b24 rfl rfl (any_of HT_.out (by kernel_rfl)) (fun _ _ _ h => h) (Or.inl ⟨by rfl, ?_⟩) ?_ ?_
                   rotate_left
                   · intro w'
                     go_simp
                     with_reducible rfl
                   rotate_left
                   · simp only [Act.put, zs]
                     rfl
                   refine done_ (done_of HT_.out (by kernel_rfl)) ?_
                   try go_wp2
                   go_ret
                   exact ⟨rfl, HB.out⟩
                 · rw [if_neg c10] at H
                   have c10b0 : decide (((rd_T30 l0 x3_1).f0) ≤ ((rd_T30 l0 (ji7)).f1)) = false := decide_eq_false c10
                   clear c10
                   have H' := Aside0.mk H
                   clear H
                   try go_wp2
                   have n0_ := Aside0.mk (below_drew1 HB.out)
                   clear HB
                   have HB := n0_
                   clear n0_
                   have p105 : 0 ≤ (x3_1 : Int) := of_decide_eq_true (by with_reducible assumption)
                   have q105 : x3_1 < (l0.length : Int) := of_decide_eq_true (by with_reducible assumption)
                   obtain ⟨ad105, e105, hx105_0, hx105_1⟩ := at_T30 HR0.out x3_1 p105 q105
                   have hw105_1 := hx105_1
                   have hw105_0 := hx105_0
                   cases e105
                   replace hx105_0 := (HB.out.cell (World.block_lt_of_cell? w _ hx105_0)).trans hx105_0
                   replace hx105_1 := (HB.out.cell (World.block_lt_of_cell? w _ hx105_1)).trans hx105_1
                   replace p105 := eq_true p105
                   replace q105 := eq_true q105
                   have p107 : 0 ≤ ((ji7) : Int) := of_decide_eq_true (by with_reducible assumption)
                   have q107 : (ji7) < (l0.length : Int) := of_decide_eq_true (by with_reducible assumption)
                   obtain ⟨ad107, e107, hx107_0, hx107_1⟩ := at_T30 HR0.out (ji7) p107 q107
                   have hw107_1 := hx107_1
                   have hw107_0 := hx107_0
                   obtain rfl : ad105 = ad107 := (by injection e107)
                   replace hx107_0 := (HB.out.cell (World.block_lt_of_cell? w _ hx107_0)).trans hx107_0
                   replace hx107_1 := (HB.out.cell (World.block_lt_of_cell? w _ hx107_1)).trans hx107_1
                   replace p107 := eq_true p107
                   replace q107 := eq_true q107
                   have p108 : 0 ≤ (x3_1 : Int) := of_decide_eq_true (by with_reducible assumption)
                   have q108 : x3_1 < (l0.length : Int) := of_decide_eq_true (by with_reducible assumption)
                   obtain ⟨ad108, e108, hx108_0, hx108_1⟩ := at_T30 HR0.out x3_1 p108 q108
                   have hw108_1 := hx108_1
                   have hw108_0 := hx108_0
                   obtain rfl : ad105 = ad108 := (by injection e108)
                   replace hx108_0 := (HB.out.cell (World.block_lt_of_cell? w _ hx108_0)).trans hx108_0
                   replace hx108_1 := (HB.out.cell (World.block_lt_of_cell? w _ hx108_1)).trans hx108_1
                   replace p108 := eq_true p108
                   replace q108 := eq_true q108
                   refine start_ (n := 24) (S := fun w' => w'.cell? (ad105.add ((x3_1).toNat * 2)) = some (.int .i64 ((rd_T30 l0 x3_1).f0)) ∧ w'.cell? ⟨(ad105.add ((x3_1).toNat * 2)).block, (ad105.add ((x3_1).toNat * 2)).off + 1, none⟩ = some (.int .i64 ((rd_T30 l0 x3_1).f1)) ∧ w'.cell? (ad105.add (((ji7)).toNat * 2)) = some (.int .i64 ((rd_T30 l0 (ji7)).f0)) ∧ w'.cell? ⟨(ad105.add (((ji7)).toNat * 2)).block, (ad105.add (((ji7)).toNat * 2)).off + 1, none⟩ = some (.int .i64 ((rd_T30 l0 (ji7)).f1)) ∧ w'.cell? (ad105.add ((x3_1).toNat * 2)) = some (.int .i64 ((rd_T30 l0 x3_1).f0)) ∧ w'.cell? ⟨(ad105.add ((x3_1).toNat * 2)).block, (ad105.add ((x3_1).toNat * 2)).off + 1, none⟩ = some (.int .i64 ((rd_T30 l0 x3_1).f1))) (ds := []) q3_b0 (by kernel_rfl) rfl rfl ⟨((HB.out.cell (World.block_lt_of_cell? w _ hw105_0)).trans hw105_0), ((HB.out.cell (World.block_lt_of_cell? w _ hw105_1)).trans hw105_1), ((HB.out.cell (World.block_lt_of_cell? w _ hw107_0)).trans hw107_0), ((HB.out.cell (World.block_lt_of_cell? w _ hw107_1)).trans hw107_1), ((HB.out.cell (World.block_lt_of_cell? w _ hw108_0)).trans hw108_0), ((HB.out.cell (World.block_lt_of_cell? w _ hw108_1)).trans hw108_1)⟩ (fun hHeld => ?_); refine with_tabW spec_l32Ascend.tab4 spec_l32Ascend.bits4 (fun HT_ HW_ => ?_)
                   generalize wr.drew = w13 at HB hx105_0 hx105_1 hx107_0 hx107_1 hx108_0 hx108_1 hHeld ⊢
                   refine pure_ (i := 0) (N := some 10) (v := ?_) (a' := ?_) q3_b1 rfl rfl (any_of HT_.out (by kernel_rfl)) (fun _ _ _ h => h) (Or.inl ⟨by rfl, ?_⟩) ?_ ?_
                   rotate_left
                   · intro w'
                     go_simp
                     with_reducible rfl
                   rotate_left
                   · simp only [Act.put, zs]
                     rfl
                   refine pure_ (i := 1) (N := some 11) (v := ?_) (a' := ?_) q3_b2 rfl rfl (any_of HT_.out (by kernel_rfl)) (fun _ _ _ h => h) (Or.inl ⟨by rfl, ?_⟩) ?_ ?_
                   rotate_left
                   · intro w'
                     go_simp
                     with_reducible rfl
                   rotate_left
                   · simp only [Act.put, zs]
                     rfl
                   refine pure_ (i := 2) (N := some 12) (v := ?_) (a' := ?_) q3_b3 rfl rfl (any_of HT_.out (by kernel_rfl)) (fun _ _ _ h => h) (Or.inl ⟨by rfl, ?_⟩) ?_ ?_
                   rotate_left
                   · intro w'
                     go_simp
                     with_reducible rfl
                   rotate_left
                   · simp only [Act.put, zs]
                     rfl
                   refine take_ (i := 3) (N := some 13) (v := ?_) (a' := ?_) q3_b4 rfl rfl (take_ofW HT_.out HW_.out (by kernel_rfl)) (fun _ _ _ h => h) (Or.inl ⟨by rfl, ?_⟩) hHeld ?_ ?_
                   rotate_left
                   · rintro w' ⟨s0, s1, s2, s3, s4, s5⟩
                     go_simp
                     with_reducible rfl
                   rotate_left
                   · simp only [Act.put, zs]
                     rfl
                   refine one_ (i := 4) (N := some 14) q3_b5 rfl rfl (one_of HT_.out (by kernel_rfl)) (by decide) (fun K hK => ?_)
                   refine goes_ Tp.func57 (by kernel_rfl) rfl #[.agg #[.int .i64 ((rd_T30 l0 x3_1).f0), .int .i64 ((rd_T30 l0 x3_1).f1)]] (by rfl) rfl rfl (by (try simp only [List.map_toArray, List.map_cons, List.map_nil]); (rfl)) ?_
                   with_reducible refine (spec_l32Range.calls ((rd_T30 l0 x3_1).f0) ((rd_T30 l0 x3_1).f1) true _ A4.out).mono ?_
                   rintro e w14 ⟨rfl, hb⟩
                   refine ⟨_, rfl, ?_⟩
                   have n0_ := Aside0.mk (below_step HB.out hb)
                   clear HB
                   have HB := n0_
                   clear n0_
                   (try clear hb)
                   (try clear hb2)
                   (try clear hk)
                   (try clear hi)
                   refine hK.out _ _ ⟨((HB.out.cell (World.block_lt_of_cell? w _ hw105_0)).trans hw105_0), ((HB.out.cell (World.block_lt_of_cell? w _ hw105_1)).trans hw105_1), ((HB.out.cell (World.block_lt_of_cell? w _ hw107_0)).trans hw107_0), ((HB.out.cell (World.block_lt_of_cell? w _ hw107_1)).trans hw107_1), ((HB.out.cell (World.block_lt_of_cell? w _ hw108_0)).trans hw108_0), ((HB.out.cell (World.block_lt_of_cell? w _ hw108_1)).trans hw108_1)⟩ (fun hHeld => ?_)
                   clear hK K
                   refine norm_ (a' := ?_) ?_ ?_
                   rotate_left
                   · show Act.put _ (some 14) _ = _
                     simp only [Act.put, zs]
                     rfl
                   refine pure_ (i := 5) (N := some 15) (v := ?_) (a' := ?_) q3_b6 rfl rfl (any_of HT_.out (by kernel_rfl)) (fun _ _ _ h => h) (Or.inl ⟨by rfl, ?_⟩) ?_ ?_
                   rotate_left
                   · intro w'
                     go_simp
                     with_reducible rfl
                   rotate_left
                   · simp only [Act.put, zs]
                     rfl
                   refine pure_ (i := 6) (N := some 16) (v := ?_) (a' := ?_) q3_b7 rfl rfl (any_of HT_.out (by kernel_rfl)) (fun _ _ _ h => h) (Or.inl ⟨by rfl, ?_⟩) ?_ ?_
                   rotate_left
                   · intro w'
                     go_simp
                     with_reducible rfl
                   rotate_left
                   · simp only [Act.put, zs]
                     rfl
                   refine pure_ (i := 7) (N := some 17) (v := ?_) (a' := ?_) q3_b8 rfl rfl (any_of HT_.out (by kernel_rfl)) (fun _ _ _ h => h) (Or.inl ⟨by rfl, ?_⟩) ?_ ?_
                   rotate_left
                   · intro w'
                     go_simp
                     with_reducible rfl
                   rotate_left
                   · simp only [Act.put, zs]
                     rfl
                   refine pure_ (i := 8) (N := some 18) (v := ?_) (a' := ?_) q3_b9 rfl rfl (any_of HT_.out (by kernel_rfl)) (fun _ _ _ h => h) (Or.inl ⟨by rfl, ?_⟩) ?_ ?_
                   rotate_left
                   · intro w'
                     go_simp
                     with_reducible rfl
                   rotate_left
                   · simp only [Act.put, zs]
                     rfl
                   refine pure_ (i := 9) (N := some 19) (v := ?_) (a' := ?_) q3_b10 rfl rfl (any_of HT_.out (by kernel_rfl)) (fun _ _ _ h => h) (Or.inl ⟨by rfl, ?_⟩) ?_ ?_
                   rotate_left
                   · intro w'
                     go_simp
                     with_reducible rfl
                   rotate_left
                   · simp only [Act.put, zs]
                     rfl
                   refine pure_ (i := 10) (N := some 20) (v := ?_) (a' := ?_) q3_b11 rfl rfl (any_of HT_.out (by kernel_rfl)) (fun _ _ _ h => h) (Or.inl ⟨by rfl, ?_⟩) ?_ ?_
                   rotate_left
                   · intro w'
                     go_simp
                     with_reducible rfl
                   rotate_left
                   · simp only [Act.put, zs]
                     rfl
                   refine pure_ (i := 11) (N := some 21) (v := ?_) (a' := ?_) q3_b12 rfl rfl (any_of HT_.out (by kernel_rfl)) (fun _ _ _ h => h) (Or.inl ⟨by rfl, ?_⟩) ?_ ?_
                   rotate_left
                   · intro w'
                     go_simp
                     with_reducible rfl
                   rotate_left
                   · simp only [Act.put, zs]
                     rfl
                   refine pure_ (i := 12) (N := some 22) (v := ?_) (a' := ?_) q3_b13 rfl rfl (any_of HT_.out (by kernel_rfl)) (fun _ _ _ h => h) (Or.inl ⟨by rfl, ?_⟩) ?_ ?_
                   rotate_left
                   · intro w'
                     go_simp
                     with_reducible rfl
                   rotate_left
                   · simp only [Act.put, zs]
                     rfl
                   refine pure_ (i := 13) (N := some 23) (v := ?_) (a' := ?_) q3_b14 rfl rfl (any_of HT_.out (by kernel_rfl)) (fun _ _ _ h => h) (Or.inl ⟨by rfl, ?_⟩) ?_ ?_
                   rotate_left
                   · intro w'
                     go_simp
                     with_reducible rfl
                   rotate_left
                   · simp only [Act.put, zs]
                     rfl
                   refine pure_ (i := 14) (N := some 24) (v := ?_) (a' := ?_) q3_b15 rfl rfl (any_of HT_.out (by kernel_rfl)) (fun _ _ _ h => h) (Or.inl ⟨by rfl, ?_⟩) ?_ ?_
                   rotate_left
                   · intro w'
                     go_simp
                     with_reducible rfl
                   rotate_left
                   · simp only [Act.put, zs]
                     rfl
                   refine pure_ (i := 16) (N := some 26) (v := ?_) (a' := ?_) q3_b16 rfl rfl (any_of HT_.out (by kernel_rfl)) (fun _ _ _ h => h) (Or.inl ⟨by rfl, ?_⟩) ?_ ?_
                   rotate_left
                   · intro w'
                     go_simp
                     with_reducible rfl
                   rotate_left
                   · simp only [Act.put, zs]
                     rfl
                   refine pure_ (i := 17) (N := some 27) (v := ?_) (a' := ?_) q3_b17 rfl rfl (any_of HT_.out (by kernel_rfl)) (fun _ _ _ h => h) (Or.inl ⟨by rfl, ?_⟩) ?_ ?_
                   rotate_left
                   · intro w'
                     go_simp
                     with_reducible rfl
                   rotate_left
                   · simp only [Act.put, zs]
                     rfl
                   refine pure_ (i := 18) (N := some 28) (v := ?_) (a' := ?_) q3_b18 rfl rfl (any_of HT_.out (by kernel_rfl)) (fun _ _ _ h => h) (Or.inl ⟨by rfl, ?_⟩) ?_ ?_
                   rotate_left
                   · intro w'
                     go_simp
                     with_reducible rfl
                   rotate_left
                   · simp only [Act.put, zs]
                     rfl
                   refine pure_ (i := 19) (N := some 29) (v := ?_) (a' := ?_) q3_b19 rfl rfl (any_of HT_.out (by kernel_rfl)) (fun _ _ _ h => h) (Or.inl ⟨by rfl, ?_⟩) ?_ ?_
                   rotate_left
                   · intro w'
                     go_simp
                     with_reducible rfl
                   rotate_left
                   · simp only [Act.put, zs]
                     rfl
                   refine take_ (i := 15) (N := some 25) (v := ?_) (a' := ?_) q3_b20 rfl rfl (take_ofW HT_.out HW_.out (by kernel_rfl)) (fun _ _ _ h => h) (Or.inl ⟨by rfl, ?_⟩) hHeld ?_ ?_
                   rotate_left
                   · rintro w' ⟨s0, s1, s2, s3, s4, s5⟩
                     go_simp
                     with_reducible rfl
                   rotate_left
                   · simp only [Act.put, zs]
                     rfl
                   refine take_ (i := 20) (N := some 30) (v := ?_) (a' := ?_) q3_b21 rfl rfl (take_ofW HT_.out HW_.out (by kernel_rfl)) (fun _ _ _ h => h) (Or.inl ⟨by rfl, ?_⟩) hHeld ?_ ?_
                   rotate_left
                   · rintro w' ⟨s0, s1, s2, s3, s4, s5⟩
                     go_simp
                     with_reducible rfl
                   rotate_left
                   · simp only [Act.put, zs]
                     rfl
                   refine pure_ (i := 21) (N := some 31) (v := ?_) (a' := ?_) q3_b22 rfl rfl (any_of HT_.out (by kernel_rfl)) (fun _ _ _ h => h) (Or.inl ⟨by rfl, ?_⟩) ?_ ?_
                   rotate_left
                   · intro w'
                     go_simp
                     with_reducible rfl
                   rotate_left
                   · simp only [Act.put, zs]
                     rfl
                   refine pure_ (i := 22) (N := some 32) (v := ?_) (a' := ?_) q3_b23 rfl rfl (any_of HT_.out (by kernel_rfl)) (fun _ _ _ h => h) (Or.inl ⟨by rfl, ?_⟩) ?_ ?_
                   rotate_left
                   · intro w'
                     go_simp
                     with_reducible rfl
                   rotate_left
                   · simp only [Act.put, zs]
                     rfl
                   refine pure_ (i := 23) (N := some 33) (v := ?_) (a' := ?_) q3_b24 rfl rfl (any_of HT_.out (by kernel_rfl)) (fun _ _ _ h => h) (Or.inl ⟨by rfl, ?_⟩) ?_ ?_
                   rotate_left
                   · intro w'
                     go_simp
                     with_reducible rfl
                   rotate_left
                   · simp only [Act.put, zs]
                     rfl
                   refine done_ (done_of HT_.out (by kernel_rfl)) ?_
                   try go_wp2
                   go_roundg k1
                   case measure => have := HK1.out; omega
                   case rel => exact ⟨(wrap64 (x3_1 + 1)), (by (rfl)), H', ⟨by have := HK1.out; omega⟩, ⟨HB.out⟩⟩
               · rw [if_neg c9] at H
                 exact absurd H (by simp)
             · rw [if_neg c8] at H
               exact absurd H (by simp)
           · rw [if_neg c6] at H
             have c6b0 : decide (0 < x3_1) = false := decide_eq_false c6
             clear c6
             have H' := Aside0.mk H
             clear H
             try go_wp2
             have n0_ := Aside0.mk (below_drew1 HB.out)
             clear HB
             have HB := n0_
             clear n0_
             have p105 : 0 ≤ (x3_1 : Int) := of_decide_eq_true (by with_reducible assumption)
             have q105 : x3_1 < (l0.length : Int) := of_decide_eq_true (by with_reducible assumption)
             obtain ⟨ad105, e105, hx105_0, hx105_1⟩ := at_T30 HR0.out x3_1 p105 q105
             have hw105_1 := hx105_1
             have hw105_0 := hx105_0
             cases e105
             replace hx105_0 := (HB.out.cell (World.block_lt_of_cell? w _ hx105_0)).trans hx105_0
             replace hx105_1 := (HB.out.cell (World.block_lt_of_cell? w _ hx105_1)).trans hx105_1
             replace p105 := eq_true p105
             replace q105 := eq_true q105
             refine start_ (n := 24) (S := fun w' => w'.cell? (ad105.add ((x3_1).toNat * 2)) = some (.int .i64 ((rd_T30 l0 x3_1).f0)) ∧ w'.cell? ⟨(ad105.add ((x3_1).toNat * 2)).block, (ad105.add ((x3_1).toNat * 2)).off + 1, none⟩ = some (.int .i64 ((rd_T30 l0 x3_1).f1))) (ds := []) q3_b0 (by kernel_rfl) rfl rfl ⟨((HB.out.cell (World.block_lt_of_cell? w _ hw105_0)).trans hw105_0), ((HB.out.cell (World.block_lt_of_cell? w _ hw105_1)).trans hw105_1)⟩ (fun hHeld => ?_); refine with_tabW spec_l32Ascend.tab4 spec_l32Ascend.bits4 (fun HT_ HW_ => ?_)
             generalize wr.drew = w15 at HB hx105_0 hx105_1 hHeld ⊢
             refine pure_ (i := 0) (N := some 10) (v := ?_) (a' := ?_) q3_b1 rfl rfl (any_of HT_.out (by kernel_rfl)) (fun _ _ _ h => h) (Or.inl ⟨by rfl, ?_⟩) ?_ ?_
             rotate_left
             · intro w'
               go_simp
               with_reducible rfl
             rotate_left
             · simp only [Act.put, zs]
               rfl
             refine pure_ (i := 1) (N := some 11) (v := ?_) (a' := ?_) q3_b2 rfl rfl (any_of HT_.out (by kernel_rfl)) (fun _ _ _ h => h) (Or.inl ⟨by rfl, ?_⟩) ?_ ?_
             rotate_left
             · intro w'
               go_simp
               with_reducible rfl
             rotate_left
             · simp only [Act.put, zs]
               rfl
             refine pure_ (i := 2) (N := some 12) (v := ?_) (a' := ?_) q3_b3 rfl rfl (any_of HT_.out (by kernel_rfl)) (fun _ _ _ h => h) (Or.inl ⟨by rfl, ?_⟩) ?_ ?_
             rotate_left
             · intro w'
               go_simp
               with_reducible rfl
             rotate_left
             · simp only [Act.put, zs]
               rfl
             refine take_ (i := 3) (N := some 13) (v := ?_) (a' := ?_) q3_b4 rfl rfl (take_ofW HT_.out HW_.out (by kernel_rfl)) (fun _ _ _ h => h) (Or.inl ⟨by rfl, ?_⟩) hHeld ?_ ?_
             rotate_left
             · rintro w' ⟨s0, s1⟩
               go_simp
               with_reducible rfl
             rotate_left
             · simp only [Act.put, zs]
               rfl
             refine one_ (i := 4) (N := some 14) q3_b5 rfl rfl (one_of HT_.out (by kernel_rfl)) (by decide) (fun K hK => ?_)
             refine goes_ Tp.func57 (by kernel_rfl) rfl #[.agg #[.int .i64 ((rd_T30 l0 x3_1).f0), .int .i64 ((rd_T30 l0 x3_1).f1)]] (by rfl) rfl rfl (by (try simp only [List.map_toArray, List.map_cons, List.map_nil]); (rfl)) ?_
             with_reducible refine (spec_l32Range.calls ((rd_T30 l0 x3_1).f0) ((rd_T30 l0 x3_1).f1) true _ A4.out).mono ?_
             rintro e w16 ⟨rfl, hb⟩
             refine ⟨_, rfl, ?_⟩
             have n0_ := Aside0.mk (below_step HB.out hb)
             clear HB
             have HB := n0_
             clear n0_
             (try clear hb)
             (try clear hb2)
             (try clear hk)
             (try clear hi)
             refine hK.out _ _ ⟨((HB.out.cell (World.block_lt_of_cell? w _ hw105_0)).trans hw105_0), ((HB.out.cell (World.block_lt_of_cell? w _ hw105_1)).trans hw105_1)⟩ (fun hHeld => ?_)
             clear hK K
             refine norm_ (a' := ?_) ?_ ?_
             rotate_left
             · show Act.put _ (some 14) _ = _
               simp only [Act.put, zs]
               rfl
             refine pure_ (i := 5) (N := some 15) (v := ?_) (a' := ?_) q3_b6 rfl rfl (any_of HT_.out (by kernel_rfl)) (fun _ _ _ h => h) (Or.inl ⟨by rfl, ?_⟩) ?_ ?_
             rotate_left
             · intro w'
               go_simp
               with_reducible rfl
             rotate_left
             · simp only [Act.put, zs]
               rfl
             refine pure_ (i := 6) (N := some 16) (v := ?_) (a' := ?_) q3_b7 rfl rfl (any_of HT_.out (by kernel_rfl)) (fun _ _ _ h => h) (Or.inl ⟨by rfl, ?_⟩) ?_ ?_
             rotate_left
             · intro w'
               go_simp
               with_reducible rfl
             rotate_left
             · simp only [Act.put, zs]
               rfl
             refine pure_ (i := 7) (N := some 17) (v := ?_) (a' := ?_) q3_b8 rfl rfl (any_of HT_.out (by kernel_rfl)) (fun _ _ _ h => h) (Or.inl ⟨by rfl, ?_⟩) ?_ ?_
             rotate_left
             · intro w'
               go_simp
               with_reducible rfl
             rotate_left
             · simp only [Act.put, zs]
               rfl
             refine pure_ (i := 8) (N := some 18) (v := ?_) (a' := ?_) q3_b9 rfl rfl (any_of HT_.out (by kernel_rfl)) (fun _ _ _ h => h) (Or.inl ⟨by rfl, ?_⟩) ?_ ?_
             rotate_left
             · intro w'
               go_simp
               with_reducible rfl
             rotate_left
             · simp only [Act.put, zs]
               rfl
             refine pure_ (i := 9) (N := some 19) (v := ?_) (a' := ?_) q3_b10 rfl rfl (any_of HT_.out (by kernel_rfl)) (fun _ _ _ h => h) (Or.inl ⟨by rfl, ?_⟩) ?_ ?_
             rotate_left
             · intro w'
               go_simp
               with_reducible rfl
             rotate_left
             · simp only [Act.put, zs]
               rfl
             refine pure_ (i := 10) (N := some 20) (v := undef) (a' := ?_) q3_b11 rfl rfl (any_of HT_.out (by kernel_rfl)) (fun _ _ _ h => h) (Or.inr ⟨by rfl, rfl⟩) ?_ ?_
             rotate_left
             · simp only [Act.put, zs]
               rfl
             refine pure_ (i := 11) (N := some 21) (v := undef) (a' := ?_) q3_b12 rfl rfl (any_of HT_.out (by kernel_rfl)) (fun _ _ _ h => h) (Or.inr ⟨by rfl, rfl⟩) ?_ ?_
             rotate_left
             · simp only [Act.put, zs]
               rfl
             refine pure_ (i := 12) (N := some 22) (v := undef) (a' := ?_) q3_b13 rfl rfl (any_of HT_.out (by kernel_rfl)) (fun _ _ _ h => h) (Or.inr ⟨by rfl, rfl⟩) ?_ ?_
             rotate_left
             · simp only [Act.put, zs]
               rfl
             refine pure_ (i := 13) (N := some 23) (v := undef) (a' := ?_) q3_b14 rfl rfl (any_of HT_.out (by kernel_rfl)) (fun _ _ _ h => h) (Or.inr ⟨by rfl, rfl⟩) ?_ ?_
             rotate_left
             · simp only [Act.put, zs]
               rfl
             refine pure_ (i := 14) (N := some 24) (v := undef) (a' := ?_) q3_b15 rfl rfl (any_of HT_.out (by kernel_rfl)) (fun _ _ _ h => h) (Or.inr ⟨by rfl, rfl⟩) ?_ ?_
             rotate_left
             · simp only [Act.put, zs]
               rfl
             refine pure_ (i := 15) (N := some 25) (v := undef) (a' := ?_) q3_b25 rfl rfl (any_of HT_.out (by kernel_rfl)) (fun _ _ _ h => h) (Or.inr ⟨by rfl, rfl⟩) ?_ ?_
             rotate_left
             · simp only [Act.put, zs]
               rfl
             refine pure_ (i := 16) (N := some 26) (v := undef) (a' := ?_) q3_b26 rfl rfl (any_of HT_.out (by kernel_rfl)) (fun _ _ _ h => h) (Or.inr ⟨by rfl, rfl⟩) ?_ ?_
             rotate_left
             · simp only [Act.put, zs]
               rfl
             refine pure_ (i := 17) (N := some 27) (v := undef) (a' := ?_) q3_b27 rfl rfl (any_of HT_.out (by kernel_rfl)) (fun _ _ _ h => h) (Or.inr ⟨by rfl, rfl⟩) ?_ ?_
             rotate_left
             · simp only [Act.put, zs]
               rfl
             refine pure_ (i := 18) (N := some 28) (v := undef) (a' := ?_) q3_b28 rfl rfl (any_of HT_.out (by kernel_rfl)) (fun _ _ _ h => h) (Or.inr ⟨by rfl, rfl⟩) ?_ ?_
             rotate_left
             · simp only [Act.put, zs]
               rfl
             refine pure_ (i := 19) (N := some 29) (v := undef) (a' := ?_) q3_b20 rfl rfl (any_of HT_.out (by kernel_rfl)) (fun _ _ _ h => h) (Or.inr ⟨by rfl, rfl⟩) ?_ ?_
             rotate_left
             · simp only [Act.put, zs]
               rfl
             refine pure_ (i := 20) (N := some 30) (v := undef) (a' := ?_) q3_b21 rfl rfl (any_of HT_.out (by kernel_rfl)) (fun _ _ _ h => h) (Or.inr ⟨by rfl, rfl⟩) ?_ ?_
             rotate_left
             · simp only [Act.put, zs]
               rfl
             refine pure_ (i := 21) (N := some 31) (v := undef) (a' := ?_) q3_b22 rfl rfl (any_of HT_.out (by kernel_rfl)) (fun _ _ _ h => h) (Or.inr ⟨by rfl, rfl⟩) ?_ ?_
             rotate_left
             · simp only [Act.put, zs]
               rfl
             refine pure_ (i := 22) (N := some 32) (v := ?_) (a' := ?_) q3_b23 rfl rfl (any_of HT_.out (by kernel_rfl)) (fun _ _ _ h => h) (Or.inl ⟨by rfl, ?_⟩) ?_ ?_
             rotate_left
             · intro w'
               go_simp
               with_reducible rfl
             rotate_left
             · simp only [Act.put, zs]
               rfl
             refine pure_ (i := 23) (N := some 33) (v := ?_) (a' := ?_) q3_b24 rfl rfl (any_of HT_.out (by kernel_rfl)) (fun _ _ _ h => h) (Or.inl ⟨by rfl, ?_⟩) ?_ ?_
             rotate_left
             · intro w'
               go_simp
               with_reducible rfl
             rotate_left
             · simp only [Act.put, zs]
               rfl
             refine done_ (done_of HT_.out (by kernel_rfl)) ?_
             try go_wp2
             go_roundg k1
             case measure => have := HK1.out; omega
             case rel => exact ⟨(wrap64 (x3_1 + 1)), (by (rfl)), H', ⟨by have := HK1.out; omega⟩, ⟨HB.out⟩⟩
         · replace c5 := Bool.eq_false_iff.mpr c5
           subst c5
           have H1 : (some false) = some r := by rw [if_neg (show ¬ (false = true) by decide)] at H; exact H
           clear H
           have H := H1
           clear H1
           obtain rfl := Option.some.inj H
           try go_wp2
           have n0_ := Aside0.mk (below_drew1 HB.out)
           clear HB
           have HB := n0_
           clear n0_
           have p105 : 0 ≤ (x3_1 : Int) := of_decide_eq_true (by with_reducible assumption)
           have q105 : x3_1 < (l0.length : Int) := of_decide_eq_true (by with_reducible assumption)
           obtain ⟨ad105, e105, hx105_0, hx105_1⟩ := at_T30 HR0.out x3_1 p105 q105
           have hw105_1 := hx105_1
           have hw105_0 := hx105_0
           cases e105
           replace hx105_0 := (HB.out.cell (World.block_lt_of_cell? w _ hx105_0)).trans hx105_0
           replace hx105_1 := (HB.out.cell (World.block_lt_of_cell? w _ hx105_1)).trans hx105_1
           replace p105 := eq_true p105
           replace q105 := eq_true q105
           refine start_ (n := 24) (S := fun w' => w'.cell? (ad105.add ((x3_1).toNat * 2)) = some (.int .i64 ((rd_T30 l0 x3_1).f0)) ∧ w'.cell? ⟨(ad105.add ((x3_1).toNat * 2)).block, (ad105.add ((x3_1).toNat * 2)).off + 1, none⟩ = some (.int .i64 ((rd_T30 l0 x3_1).f1))) (ds := []) q3_b0 (by kernel_rfl) rfl rfl ⟨((HB.out.cell (World.block_lt_of_cell? w _ hw105_0)).trans hw105_0), ((HB.out.cell (World.block_lt_of_cell? w _ hw105_1)).trans hw105_1)⟩ (fun hHeld => ?_); refine with_tabW spec_l32Ascend.tab4 spec_l32Ascend.bits4 (fun HT_ HW_ => ?_)
           generalize wr.drew = w17 at HB hx105_0 hx105_1 hHeld ⊢
           refine pure_ (i := 0) (N := some 10) (v := ?_) (a' := ?_) q3_b1 rfl rfl (any_of HT_.out (by kernel_rfl)) (fun _ _ _ h => h) (Or.inl ⟨by rfl, ?_⟩) ?_ ?_
           rotate_left
           · intro w'
             go_simp
             with_reducible rfl
           rotate_left
           · simp only [Act.put, zs]
             rfl
           refine pure_ (i := 1) (N := some 11) (v := ?_) (a' := ?_) q3_b2 rfl rfl (any_of HT_.out (by kernel_rfl)) (fun _ _ _ h => h) (Or.inl ⟨by rfl, ?_⟩) ?_ ?_
           rotate_left
           · intro w'
             go_simp
             with_reducible rfl
           rotate_left
           · simp only [Act.put, zs]
             rfl
           refine pure_ (i := 2) (N := some 12) (v := ?_) (a' := ?_) q3_b3 rfl rfl (any_of HT_.out (by kernel_rfl)) (fun _ _ _ h => h) (Or.inl ⟨by rfl, ?_⟩) ?_ ?_
           rotate_left
           · intro w'
             go_simp
             with_reducible rfl
           rotate_left
           · simp only [Act.put, zs]
             rfl
           refine take_ (i := 3) (N := some 13) (v := ?_) (a' := ?_) q3_b4 rfl rfl (take_ofW HT_.out HW_.out (by kernel_rfl)) (fun _ _ _ h => h) (Or.inl ⟨by rfl, ?_⟩) hHeld ?_ ?_
           rotate_left
           · rintro w' ⟨s0, s1⟩
             go_simp
             with_reducible rfl
           rotate_left
           · simp only [Act.put, zs]
             rfl
           refine one_ (i := 4) (N := some 14) q3_b5 rfl rfl (one_of HT_.out (by kernel_rfl)) (by decide) (fun K hK => ?_)
           refine goes_ Tp.func57 (by kernel_rfl) rfl #[.agg #[.int .i64 ((rd_T30 l0 x3_1).f0), .int .i64 ((rd_T30 l0 x3_1).f1)]] (by rfl) rfl rfl (by (try simp only [List.map_toArray, List.map_cons, List.map_nil]); (rfl)) ?_
           with_reducible refine (spec_l32Range.calls ((rd_T30 l0 x3_1).f0) ((rd_T30 l0 x3_1).f1) false _ A4.out).mono ?_
           rintro e w18 ⟨rfl, hb⟩
           refine ⟨_, rfl, ?_⟩
           have n0_ := Aside0.mk (below_step HB.out hb)
           clear HB
           have HB := n0_
           clear n0_
           (try clear hb)
           (try clear hb2)
           (try clear hk)
           (try clear hi)
           refine hK.out _ _ ⟨((HB.out.cell (World.block_lt_of_cell? w _ hw105_0)).trans hw105_0), ((HB.out.cell (World.block_lt_of_cell? w _ hw105_1)).trans hw105_1)⟩ (fun hHeld => ?_)
           clear hK K
           refine norm_ (a' := ?_) ?_ ?_
           rotate_left
           · show Act.put _ (some 14) _ = _
             simp only [Act.put, zs]
             rfl
           refine pure_ (i := 5) (N := some 15) (v := ?_) (a' := ?_) q3_b6 rfl rfl (any_of HT_.out (by kernel_rfl)) (fun _ _ _ h => h) (Or.inl ⟨by rfl, ?_⟩) ?_ ?_
           rotate_left
           · intro w'
             go_simp
             with_reducible rfl
           rotate_left
           · simp only [Act.put, zs]
             rfl
           refine pure_ (i := 6) (N := some 16) (v := ?_) (a' := ?_) q3_b7 rfl rfl (any_of HT_.out (by kernel_rfl)) (fun _ _ _ h => h) (Or.inl ⟨by rfl, ?_⟩) ?_ ?_
           rotate_left
           · intro w'
             go_simp
             with_reducible rfl
           rotate_left
           · simp only [Act.put, zs]
             rfl
           refine pure_ (i := 7) (N := some 17) (v := undef) (a' := ?_) q3_b8 rfl rfl (any_of HT_.out (by kernel_rfl)) (fun _ _ _ h => h) (Or.inr ⟨by rfl, rfl⟩) ?_ ?_
           rotate_left
           · simp only [Act.put, zs]
             rfl
           refine pure_ (i := 8) (N := some 18) (v := undef) (a' := ?_) q3_b9 rfl rfl (any_of HT_.out (by kernel_rfl)) (fun _ _ _ h => h) (Or.inr ⟨by rfl, rfl⟩) ?_ ?_
           rotate_left
           · simp only [Act.put, zs]
             rfl
           refine pure_ (i := 9) (N := some 19) (v := undef) (a' := ?_) q3_b10 rfl rfl (any_of HT_.out (by kernel_rfl)) (fun _ _ _ h => h) (Or.inr ⟨by rfl, rfl⟩) ?_ ?_
           rotate_left
           · simp only [Act.put, zs]
             rfl
           refine pure_ (i := 10) (N := some 20) (v := undef) (a' := ?_) q3_b11 rfl rfl (any_of HT_.out (by kernel_rfl)) (fun _ _ _ h => h) (Or.inr ⟨by rfl, rfl⟩) ?_ ?_
           rotate_left
           · simp only [Act.put, zs]
             rfl
           refine pure_ (i := 11) (N := some 21) (v := undef) (a' := ?_) q3_b12 rfl rfl (any_of HT_.out (by kernel_rfl)) (fun _ _ _ h => h) (Or.inr ⟨by rfl, rfl⟩) ?_ ?_
           rotate_left
           · simp only [Act.put, zs]
             rfl
           refine pure_ (i := 12) (N := some 22) (v := undef) (a' := ?_) q3_b13 rfl rfl (any_of HT_.out (by kernel_rfl)) (fun _ _ _ h => h) (Or.inr ⟨by rfl, rfl⟩) ?_ ?_
           rotate_left
           · simp only [Act.put, zs]
             rfl
           refine pure_ (i := 13) (N := some 23) (v := undef) (a' := ?_) q3_b14 rfl rfl (any_of HT_.out (by kernel_rfl)) (fun _ _ _ h => h) (Or.inr ⟨by rfl, rfl⟩) ?_ ?_
           rotate_left
           · simp only [Act.put, zs]
             rfl
           refine pure_ (i := 14) (N := some 24) (v := undef) (a' := ?_) q3_b15 rfl rfl (any_of HT_.out (by kernel_rfl)) (fun _ _ _ h => h) (Or.inr ⟨by rfl, rfl⟩) ?_ ?_
           rotate_left
           · simp only [Act.put, zs]
             rfl
           refine pure_ (i := 15) (N := some 25) (v := undef) (a' := ?_) q3_b25 rfl rfl (any_of HT_.out (by kernel_rfl)) (fun _ _ _ h => h) (Or.inr ⟨by rfl, rfl⟩) ?_ ?_
           rotate_left
           · simp only [Act.put, zs]
             rfl
           refine pure_ (i := 16) (N := some 26) (v := undef) (a' := ?_) q3_b26 rfl rfl (any_of HT_.out (by kernel_rfl)) (fun _ _ _ h => h) (Or.inr ⟨by rfl, rfl⟩) ?_ ?_
           rotate_left
           · simp only [Act.put, zs]
             rfl
           refine pure_ (i := 17) (N := some 27) (v := undef) (a' := ?_) q3_b27 rfl rfl (any_of HT_.out (by kernel_rfl)) (fun _ _ _ h => h) (Or.inr ⟨by rfl, rfl⟩) ?_ ?_
           rotate_left
           · simp only [Act.put, zs]
             rfl
           refine pure_ (i := 18) (N := some 28) (v := undef) (a' := ?_) q3_b28 rfl rfl (any_of HT_.out (by kernel_rfl)) (fun _ _ _ h => h) (Or.inr ⟨by rfl, rfl⟩) ?_ ?_
           rotate_left
           · simp only [Act.put, zs]
             rfl
           refine pure_ (i := 19) (N := some 29) (v := undef) (a' := ?_) q3_b20 rfl rfl (any_of HT_.out (by kernel_rfl)) (fun _ _ _ h => h) (Or.inr ⟨by rfl, rfl⟩) ?_ ?_
           rotate_left
           · simp only [Act.put, zs]
             rfl
           refine pure_ (i := 20) (N := some 30) (v := undef) (a' := ?_) q3_b21 rfl rfl (any_of HT_.out (by kernel_rfl)) (fun _ _ _ h => h) (Or.inr ⟨by rfl, rfl⟩) ?_ ?_
           rotate_left
           · simp only [Act.put, zs]
             rfl
           refine pure_ (i := 21) (N := some 31) (v := undef) (a' := ?_) q3_b22 rfl rfl (any_of HT_.out (by kernel_rfl)) (fun _ _ _ h => h) (Or.inr ⟨by rfl, rfl⟩) ?_ ?_
           rotate_left
           · simp only [Act.put, zs]
             rfl
           refine pure_ (i := 22) (N := some 32) (v := undef) (a' := ?_) q3_b23 rfl rfl (any_of HT_.out (by kernel_rfl)) (fun _ _ _ h => h) (Or.inr ⟨by rfl, rfl⟩) ?_ ?_
           rotate_left
           · simp only [Act.put, zs]
             rfl
           refine pure_ (i := 23) (N := some 33) (v := ?_) (a' := ?_) q3_b24 rfl rfl (any_of HT_.out (by kernel_rfl)) (fun _ _ _ h => h) (Or.inl ⟨by rfl, ?_⟩) ?_ ?_
           rotate_left
           · intro w'
             go_simp
             with_reducible rfl
           rotate_left
           · simp only [Act.put, zs]
             rfl
           refine done_ (done_of HT_.out (by kernel_rfl)) ?_
           try go_wp2
           go_ret
           exact ⟨rfl, HB.out⟩
       · rw [if_neg c3] at H
         exact absurd H (by simp)
     · rw [if_neg c2] at H
       have c2b0 : decide (x3_1 < (l0.length : Int)) = false := decide_eq_false c2
       clear c2
       obtain rfl := Option.some.inj H
       go_wp2
       go_ret
       exact ⟨rfl, HB.out⟩
end Go.Proofs.Ytcoppnbjpncdcaa.PAll
end
section
namespace Go.Proofs.Ytcoppnbjpncdcaa.PAll
open Go.RowKit Go.Proofs.YtcoppnbjpncdcaaW.PrintWords Go.Proofs.YtcoppnbjpncdcaaW.PrintLast Go.Proofs.YtcoppnbjpncdcaaW.PrintMore
set_option linter.unusedVariables false
set_option linter.unusedSimpArgs false
def spec_RangesValid.f (k : Nat) (l0 : List (S30)) : Option (Bool) := (spec_l32Ascend.f k l0).bind fun t109 => (if t109 = true then (some (decide ((l0.length : Int) ≤ 8))) else (some false))
set_option maxHeartbeats 8000000 in
set_option maxRecDepth 100000 in
theorem spec_RangesValid.calls (k : Nat) (A0 : Option Addr) (c0 : Nat) (l0 : List (S30)) (r : Bool) (w : World) (hr0 : Kd.C k30 w A0 l0.length l0) (hc0 : l0.length ≤ c0) (h : spec_RangesValid.f k l0 = some r) :
   Calls Tp.prog 31 #[.slice A0 l0.length c0] w fun e w' => e = .returned (.bool r) ∧ Below w.heap.size w w' := by
 have HR0 := Aside0.mk hr0
 have HC0 := Aside0.mk hc0
 clear hr0 hc0
 have HB := Aside0.mk (Below.refl w.heap.size w)
 have H : ((spec_l32Ascend.f k l0).bind fun t109 => (if t109 = true then (some (decide ((l0.length : Int) ≤ 8))) else (some false))) = some r := h
 clear h
 replace H := Option.bind_eq_some_iff.mp H
 obtain ⟨t109, A20, H⟩ := H
 replace H : (if t109 = true then (some (decide ((l0.length : Int) ≤ 8))) else (some false)) = some r := H
 have A2 := Aside0.mk A20
 clear A20
 by_cases c3 : t109 = true
 · subst c3
   have H1 : (some (decide ((l0.length : Int) ≤ 8))) = some r := by rw [if_pos rfl] at H; exact H
   clear H
   have H := H1
   clear H1
   obtain rfl := Option.some.inj H
   go_enter Tp.func31, Try.ntmps31
   go_wp2_with ((((with_reducible refine gate_callee (f := 44) rfl ?_); refine goesL_ (some 4) rfl rfl Tp.func44 (by kernel_rfl) rfl #[.slice A0 l0.length c0] rfl (by (try simp only [List.map_toArray, List.map_cons, List.map_nil]); (rfl)) ?_; (with_reducible refine (spec_l32Ascend.calls k _ _ l0 true _ ?side1 ?side2 A2.out).mono ?_); (case side1 => repeat ((exact HR0.out))); (case side2 => exact HC0.out); rintro e w4 ⟨rfl, hb⟩; refine ⟨_, rfl, ?_⟩; have n0_ := Aside0.mk (below_step HB.out hb); clear HB; have HB := n0_; clear n0_; (try clear hb); (try clear hb2); (try clear hk); (try clear hi))))
   go_ret
   exact ⟨rfl, HB.out⟩
 · replace c3 := Bool.eq_false_iff.mpr c3
   subst c3
   have H1 : (some false) = some r := by rw [if_neg (show ¬ (false = true) by decide)] at H; exact H
   clear H
   have H := H1
   clear H1
   obtain rfl := Option.some.inj H
   go_enter Tp.func31, Try.ntmps31
   go_wp2_with ((((with_reducible refine gate_callee (f := 44) rfl ?_); refine goesL_ (some 4) rfl rfl Tp.func44 (by kernel_rfl) rfl #[.slice A0 l0.length c0] rfl (by (try simp only [List.map_toArray, List.map_cons, List.map_nil]); (rfl)) ?_; (with_reducible refine (spec_l32Ascend.calls k _ _ l0 false _ ?side1 ?side2 A2.out).mono ?_); (case side1 => repeat ((exact HR0.out))); (case side2 => exact HC0.out); rintro e w5 ⟨rfl, hb⟩; refine ⟨_, rfl, ?_⟩; have n0_ := Aside0.mk (below_step HB.out hb); clear HB; have HB := n0_; clear n0_; (try clear hb); (try clear hb2); (try clear hk); (try clear hi))))
   go_ret
   exact ⟨rfl, HB.out⟩
def spec_l42Ok.f (k : Nat) (l0 : List (S30)) (a1_0 : Int) (a1_1 : Int) (a2 : Int) : Option (Bool) := (spec_RangesValid.f k l0).bind fun t111 => (if t111 = true then ((spec_l32Range.f a1_0 a1_1).bind fun t112 => (if t112 = true then (some (decide (a2 ≥ 1))) else (some false))) else (some false))
set_option maxHeartbeats 8000000 in
set_option maxRecDepth 100000 in
theorem spec_l42Ok.calls (k : Nat) (A0 : Option Addr) (c0 : Nat) (l0 : List (S30)) (a1_0 : Int) (a1_1 : Int) (a2 : Int) (r : Bool) (w : World) (hr0 : Kd.C k30 w A0 l0.length l0) (hc0 : l0.length ≤ c0) (h : spec_l42Ok.f k l0 a1_0 a1_1 a2 = some r) :
   Calls Tp.prog 40 #[.slice A0 l0.length c0, .agg #[.int .i64 a1_0, .int .i64 a1_1], .int .i64 a2] w fun e w' => e = .returned (.bool r) ∧ Below w.heap.size w w' := by
 have hu30 := Tp.underlying30
 have HR0 := Aside0.mk hr0
 have HC0 := Aside0.mk hc0
 clear hr0 hc0
 have HB := Aside0.mk (Below.refl w.heap.size w)
 have H : ((spec_RangesValid.f k l0).bind fun t111 => (if t111 = true then ((spec_l32Range.f a1_0 a1_1).bind fun t112 => (if t112 = true then (some (decide (a2 ≥ 1))) else (some false))) else (some false))) = some r := h
 clear h
 replace H := Option.bind_eq_some_iff.mp H
 obtain ⟨t111, A40, H⟩ := H
 replace H : (if t111 = true then ((spec_l32Range.f a1_0 a1_1).bind fun t112 => (if t112 = true then (some (decide (a2 ≥ 1))) else (some false))) else (some false)) = some r := H
 have A4 := Aside0.mk A40
 clear A40
 by_cases c5 : t111 = true
 · subst c5
   have H1 : ((spec_l32Range.f a1_0 a1_1).bind fun t112 => (if t112 = true then (some (decide (a2 ≥ 1))) else (some false))) = some r := by rw [if_pos rfl] at H; exact H
   clear H
   have H := H1
   clear H1
   replace H := Option.bind_eq_some_iff.mp H
   obtain ⟨t112, A60, H⟩ := H
   replace H : (if t112 = true then (some (decide (a2 ≥ 1))) else (some false)) = some r := H
   have A6 := Aside0.mk A60
   clear A60
   by_cases c7 : t112 = true
   · subst c7
     have H1 : (some (decide (a2 ≥ 1))) = some r := by rw [if_pos rfl] at H; exact H
     clear H
     have H := H1
     clear H1
     obtain rfl := Option.some.inj H
     go_enter Tp.func40, Try.ntmps40
     go_wp2_with (first | ((with_reducible refine gate_dst (N := 4) rfl ?_); refine box_event ?hg (N := 4) ?hd (cs := #[.int .i64 a1_0, .int .i64 a1_1]) (t := 30) ?hr ?_; (case hd => rfl); (case hg => rfl); (case hr => (go_simp; done)); intro gb110 hg w8 hbox hb; have n0_ := Aside0.mk (below_step HB.out hb); have n1_ := Aside0.mk (hbox); have n2_ := Aside0.mk ((by rw [hg]; exact (below_size HB.out) : w.heap.size ≤ gb110)); have n3_ := Aside0.mk ((by rw [hg]; exact (below_size HB.out) : w.heap.size ≤ gb110)); clear HB; have HB := n0_; have BK110 := n1_; have GW110 := n2_; have GE110 := n3_; clear n0_ n1_ n2_ n3_; clear hb hbox hg) | ((with_reducible refine gate_callee (f := 31) rfl ?_); refine goesL_ (some 8) rfl rfl Tp.func31 (by kernel_rfl) rfl #[.slice A0 l0.length c0] rfl (by (try simp only [List.map_toArray, List.map_cons, List.map_nil]); (rfl)) ?_; (with_reducible refine (spec_RangesValid.calls k _ _ l0 true _ ?side1 ?side2 A4.out).mono ?_); (case side1 => exact Kd.C_below HR0.out HB.out); (case side2 => exact HC0.out); rintro e w9 ⟨rfl, hb⟩; refine ⟨_, rfl, ?_⟩; have n0_ := Aside0.mk (blk_below (g := gb110) (o := .cells #[.int .i64 a1_0, .int .i64 a1_1] 30 (0, 0)) (by exact BK110.out) hb); have n1_ := Aside0.mk (below_step HB.out hb); clear BK110; clear HB; have BK110 := n0_; have HB := n1_; clear n0_ n1_; (try clear hb); (try clear hb2); (try clear hk); (try clear hi); have hcz10_0 : w9.cell? ⟨gb110, 0, none⟩ = some (.int .i64 a1_0) := (blk_cell BK110.out 0).trans rfl; have hcz10_1 : w9.cell? ⟨gb110, 1, none⟩ = some (.int .i64 a1_1) := (blk_cell BK110.out 1).trans rfl; have hfz10_0 := blk_frozen BK110.out 0; have hfz10_1 := blk_frozen BK110.out 1) | (go_at_call 57; (with_reducible refine (spec_l32Range.calls a1_0 a1_1 true _ A6.out).mono ?_); rintro e w11 ⟨rfl, hb⟩; have n0_ := Aside0.mk (blk_below (g := gb110) (o := .cells #[.int .i64 a1_0, .int .i64 a1_1] 30 (0, 0)) (by exact BK110.out) hb); have n1_ := Aside0.mk (below_step HB.out hb); clear BK110; clear HB; have BK110 := n0_; have HB := n1_; clear n0_ n1_; (try clear hb); (try clear hb2); (try clear hk); (try clear hi)))
     go_ret
     exact ⟨rfl, HB.out⟩
   · replace c7 := Bool.eq_false_iff.mpr c7
     subst c7
     have H1 : (some false) = some r := by rw [if_neg (show ¬ (false = true) by decide)] at H; exact H
     clear H
     have H := H1
     clear H1
     obtain rfl := Option.some.inj H
     go_enter Tp.func40, Try.ntmps40
     go_wp2_with (first | ((with_reducible refine gate_dst (N := 4) rfl ?_); refine box_event ?hg (N := 4) ?hd (cs := #[.int .i64 a1_0, .int .i64 a1_1]) (t := 30) ?hr ?_; (case hd => rfl); (case hg => rfl); (case hr => (go_simp; done)); intro gb110 hg w12 hbox hb; have n0_ := Aside0.mk (below_step HB.out hb); have n1_ := Aside0.mk (hbox); have n2_ := Aside0.mk ((by rw [hg]; exact (below_size HB.out) : w.heap.size ≤ gb110)); have n3_ := Aside0.mk ((by rw [hg]; exact (below_size HB.out) : w.heap.size ≤ gb110)); clear HB; have HB := n0_; have BK110 := n1_; have GW110 := n2_; have GE110 := n3_; clear n0_ n1_ n2_ n3_; clear hb hbox hg) | ((with_reducible refine gate_callee (f := 31) rfl ?_); refine goesL_ (some 8) rfl rfl Tp.func31 (by kernel_rfl) rfl #[.slice A0 l0.length c0] rfl (by (try simp only [List.map_toArray, List.map_cons, List.map_nil]); (rfl)) ?_; (with_reducible refine (spec_RangesValid.calls k _ _ l0 true _ ?side1 ?side2 A4.out).mono ?_); (case side1 => exact Kd.C_below HR0.out HB.out); (case side2 => exact HC0.out); rintro e w13 ⟨rfl, hb⟩; refine ⟨_, rfl, ?_⟩; have n0_ := Aside0.mk (blk_below (g := gb110) (o := .cells #[.int .i64 a1_0, .int .i64 a1_1] 30 (0, 0)) (by exact BK110.out) hb); have n1_ := Aside0.mk (below_step HB.out hb); clear BK110; clear HB; have BK110 := n0_; have HB := n1_; clear n0_ n1_; (try clear hb); (try clear hb2); (try clear hk); (try clear hi); have hcz14_0 : w13.cell? ⟨gb110, 0, none⟩ = some (.int .i64 a1_0) := (blk_cell BK110.out 0).trans rfl; have hcz14_1 : w13.cell? ⟨gb110, 1, none⟩ = some (.int .i64 a1_1) := (blk_cell BK110.out 1).trans rfl; have hfz14_0 := blk_frozen BK110.out 0; have hfz14_1 := blk_frozen BK110.out 1) | (go_at_call 57; (with_reducible refine (spec_l32Range.calls a1_0 a1_1 false _ A6.out).mono ?_); rintro e w15 ⟨rfl, hb⟩; have n0_ := Aside0.mk (blk_below (g := gb110) (o := .cells #[.int .i64 a1_0, .int .i64 a1_1] 30 (0, 0)) (by exact BK110.out) hb); have n1_ := Aside0.mk (below_step HB.out hb); clear BK110; clear HB; have BK110 := n0_; have HB := n1_; clear n0_ n1_; (try clear hb); (try clear hb2); (try clear hk); (try clear hi)))
     go_ret
     exact ⟨rfl, HB.out⟩
 · replace c5 := Bool.eq_false_iff.mpr c5
   subst c5
   have H1 : (some false) = some r := by rw [if_neg (show ¬ (false = true) by decide)] at H; exact H
   clear H
   have H := H1
   clear H1
   obtain rfl := Option.some.inj H
   go_enter Tp.func40, Try.ntmps40
   go_wp2_with (first | ((with_reducible refine gate_dst (N := 4) rfl ?_); refine box_event ?hg (N := 4) ?hd (cs := #[.int .i64 a1_0, .int .i64 a1_1]) (t := 30) ?hr ?_; (case hd => rfl); (case hg => rfl); (case hr => (go_simp; done)); intro gb110 hg w16 hbox hb; have n0_ := Aside0.mk (below_step HB.out hb); have n1_ := Aside0.mk (hbox); have n2_ := Aside0.mk ((by rw [hg]; exact (below_size HB.out) : w.heap.size ≤ gb110)); have n3_ := Aside0.mk ((by rw [hg]; exact (below_size HB.out) : w.heap.size ≤ gb110)); clear HB; have HB := n0_; have BK110 := n1_; have GW110 := n2_; have GE110 := n3_; clear n0_ n1_ n2_ n3_; clear hb hbox hg) | ((with_reducible refine gate_callee (f := 31) rfl ?_); refine goesL_ (some 8) rfl rfl Tp.func31 (by kernel_rfl) rfl #[.slice A0 l0.length c0] rfl (by (try simp only [List.map_toArray, List.map_cons, List.map_nil]); (rfl)) ?_; (with_reducible refine (spec_RangesValid.calls k _ _ l0 false _ ?side1 ?side2 A4.out).mono ?_); (case side1 => exact Kd.C_below HR0.out HB.out); (case side2 => exact HC0.out); rintro e w17 ⟨rfl, hb⟩; refine ⟨_, rfl, ?_⟩; have n0_ := Aside0.mk (blk_below (g := gb110) (o := .cells #[.int .i64 a1_0, .int .i64 a1_1] 30 (0, 0)) (by exact BK110.out) hb); have n1_ := Aside0.mk (below_step HB.out hb); clear BK110; clear HB; have BK110 := n0_; have HB := n1_; clear n0_ n1_; (try clear hb); (try clear hb2); (try clear hk); (try clear hi)))
   go_ret
   exact ⟨rfl, HB.out⟩
mutual
def spec_l32Without.l0 : Nat → List (S30) → List (S30) → Int → Int → Int → Int → Option ((List (S30)))
 | 0, _, _, _, _, _, _ => none
 | k + 1, x1, x5, x6, x7, x114000, x114001 => if x7 < (x1.length : Int) then (if 0 ≤ x7 then (if ((rd_T30 x1 x7).f1) > x6 then (spec_l32Without.j1 k x1 x5 x6 x7 (decide (((rd_T30 x1 x7).f0) < x114001)) x114000 x114001) else (spec_l32Without.j1 k x1 x5 x6 x7 false x114000 x114001)) else (none)) else (if x6 < x114001 then (if x5.length < 8796093022208 then (some (x5 ++ [(⟨x6, x114001⟩ : S30)])) else (none)) else (some x5))
def spec_l32Without.j1 : Nat → List (S30) → List (S30) → Int → Int → Bool → Int → Int → Option ((List (S30)))
 | 0, _, _, _, _, _, _, _ => none
 | k + 1, x1, x5, x6, x7, x33, x114000, x114001 => if x33 = true then (if 0 ≤ x7 then (if x7 < (x1.length : Int) then (if ((rd_T30 x1 x7).f0) > x6 then (if x5.length < 8796093022208 then (spec_l32Without.l0 k x1 (x5 ++ [(⟨x6, (rd_T30 x1 x7).f0⟩ : S30)]) ((rd_T30 x1 x7).f1) (wrap64 (x7 + 1)) x114000 x114001) else (none)) else (spec_l32Without.l0 k x1 x5 ((rd_T30 x1 x7).f1) (wrap64 (x7 + 1)) x114000 x114001)) else (none)) else (none)) else (spec_l32Without.l0 k x1 x5 x6 (wrap64 (x7 + 1)) x114000 x114001)
end
def spec_l32Without.f (k : Nat) (a0_0 : Int) (a0_1 : Int) (l1 : List (S30)) : Option ((List (S30))) := spec_l32Without.l0 k l1 (([] : List (S30))) a0_0 0 a0_0 a0_1
set_option maxHeartbeats 8000000 in
set_option maxRecDepth 100000 in
theorem spec_l32Without.calls (k : Nat) (a0_0 : Int) (a0_1 : Int) (A1 : Option Addr) (c1 : Nat) (l1 : List (S30)) (r : List (S30)) (w : World) (hr1 : Kd.C k30 w A1 l1.length l1) (hc1 : l1.length ≤ c1) (h : spec_l32Without.f k a0_0 a0_1 l1 = some r) :
   Calls Tp.prog 41 #[.agg #[.int .i64 a0_0, .int .i64 a0_1], .slice A1 l1.length c1] w fun e w' => ∃ v0_ : Value, e = .returned (v0_) ∧ Kd.R k30 30 w' w.heap.size (fun _ => True) v0_ r ∧ Below w.heap.size w w' := by
 have hu30 := Tp.underlying30
 have HR1 := Aside0.mk hr1
 have HC1 := Aside0.mk hc1
 clear hr1 hc1
 have HB := Aside0.mk (Below.refl w.heap.size w)
 have H : (spec_l32Without.l0 k l1 (([] : List (S30))) a0_0 0 a0_0 a0_1) = some r := h
 clear h
 obtain ⟨y114, hy114⟩ : ∃ y_ : List (S30), y_ = (([] : List (S30))) := ⟨_, rfl⟩
 replace H : (spec_l32Without.l0 k l1 y114 a0_0 0 a0_0 a0_1) = some r := by ((rw [hy114]; with_reducible exact H))
 have Ny114 := Aside0.mk hy114
 clear hy114
 have H' := Aside0.mk H
 clear H
 go_enter Tp.func41, Try.ntmps41
 go_wp2_with (first | ((with_reducible refine gate_dst (N := 2) rfl ?_); refine box_event ?hg (N := 2) ?hd (cs := #[.int .i64 a0_0, .int .i64 a0_1]) (t := 30) ?hr ?_; (case hd => rfl); (case hg => rfl); (case hr => (go_simp; done)); intro gb113 hg w3 hbox hb; have n0_ := Aside0.mk (below_step HB.out hb); have n1_ := Aside0.mk (hbox); have n2_ := Aside0.mk ((by rw [hg]; exact (below_size HB.out) : w.heap.size ≤ gb113)); have n3_ := Aside0.mk ((by rw [hg]; exact (below_size HB.out) : w.heap.size ≤ gb113)); clear HB; have HB := n0_; have BK113 := n1_; have GW113 := n2_; have GE113 := n3_; clear n0_ n1_ n2_ n3_; clear hb hbox hg) | ((with_reducible refine gate_dst (N := 8) rfl ?_); refine Kd.R_lit k30 _ 30 ?hg (N := 8) ?hd (xs := ([] : List (S30))) (inner := []) (ok := fun _ => True) (okp := fun _ => True) ?hr ?hp (fun _ hk => hk) trivial (Below.refl _ _) (Nat.le_refl _) (by simp) ?_; (case hd => rfl); (case hg => rfl); (case hr => (go_simp; done)); (case hp => exact (Reps.none _ _)); intro v115 w4 ho5 hb hg_ hnew_; clear hg_ hnew_; ((rw [← Ny114.out] at ho5)); have n0_ := Aside0.mk (Kd.R_lower (Kd.R_newB ho5 (g := gb113) (o := .cells #[.int .i64 a0_0, .int .i64 a0_1] 30 (0, 0)) (by exact BK113.out)) (below_size HB.out)); have n1_ := Aside0.mk (blk_below (g := gb113) (o := .cells #[.int .i64 a0_0, .int .i64 a0_1] 30 (0, 0)) (by exact BK113.out) hb); have n2_ := Aside0.mk (below_step HB.out hb); clear BK113; clear HB; have HO116 := n0_; have BK113 := n1_; have HB := n2_; clear n0_ n1_ n2_; clear hb ho5; have hcz6_0 : w4.cell? ⟨gb113, 0, none⟩ = some (.int .i64 a0_0) := (blk_cell BK113.out 0).trans rfl; have hcz6_1 : w4.cell? ⟨gb113, 1, none⟩ = some (.int .i64 a0_1) := (blk_cell BK113.out 1).trans rfl; have hfz6_0 := blk_frozen BK113.out 0; have hfz6_1 := blk_frozen BK113.out 1))
 repeat (go_quiet (fail); try go_wp2_with (fail))
 go_loopg [5, 6, 7] k (fun kq v5 v6 v7 w' => ∃ (x5_1 : List (S30)) (x6_1 : Int) (x7_1 : Int), v6 = .int .i64 x6_1 ∧ v7 = .int .i64 x7_1 ∧ Aside0 (spec_l32Without.l0 kq l1 x5_1 x6_1 x7_1 a0_0 a0_1 = some r) ∧ Aside0 (kq ≤ k) ∧ Aside0 (Kd.R k30 30 w' w.heap.size (fun k_ => k_ ≠ gb113) v5 x5_1) ∧ Aside0 (w'.heap[gb113]? = some (.cells #[.int .i64 a0_0, .int .i64 a0_1] 30 (0, 0))) ∧ Aside0 (Below w.heap.size w w'))
 case atStart => exact ⟨(y114), (a0_0), (0), (by (rfl)), (by (rfl)), H', ⟨Nat.le_refl _⟩, ⟨by exact Kd.R_mono HO116.out (fun _ hk => hk.2)⟩, ⟨by exact BK113.out⟩, ⟨HB.out⟩⟩
 case round =>
   clear H'
   try clear c1
   try clear p2
   try clear c4
   try clear hcz6_0
   try clear hcz6_1
   try clear hfz6_0
   try clear hfz6_1
   obtain ⟨x5_1, x6_1, x7_1, rfl, rfl, HA, HK1, HO_5, BK113, HB⟩ := hrel
   cases gk with
   | zero => exact absurd HA.out (by simp [spec_l32Without.l0])
   | succ k1 =>
     have H := HA.out
     clear HA
     simp only [spec_l32Without.l0] at H
     by_cases c7 : x7_1 < (l1.length : Int)
     · rw [if_pos c7] at H
       have c7b0 : decide (x7_1 < (l1.length : Int)) = true := decide_eq_true c7
       clear c7
       have HC8 := Aside0.mk H
       clear H
       go_upto_region 6 with (fail)
       repeat (go_quiet (fail); go_upto_region 6 with (fail))
       go_cut [33] (fun v33 wc => ∃ (kq : Nat) (x33_7 : Bool), v33 = .bool x33_7 ∧ Aside0 (spec_l32Without.j1 kq l1 x5_1 x6_1 x7_1 x33_7 a0_0 a0_1 = some r) ∧ Aside0 (kq ≤ k1) ∧ Aside0 (Kd.R k30 30 wc w.heap.size (fun k_ => k_ ≠ gb113) u5 x5_1) ∧ Aside0 (wc.heap[gb113]? = some (.cells #[.int .i64 a0_0, .int .i64 a0_1] 30 (0, 0))) ∧ Aside0 (Below w.heap.size w wc))
       case first =>
         have H := HC8.out
         clear HC8
         by_cases c9 : 0 ≤ x7_1
         · rw [if_pos c9] at H
           have c9b0 : decide (0 ≤ x7_1) = true := decide_eq_true c9
           clear c9
           ((skip))
           by_cases c10 : ((rd_T30 l1 x7_1).f1) > x6_1
           · rw [if_pos c10] at H
             have c10b0 : decide (x6_1 < ((rd_T30 l1 x7_1).f1)) = true := decide_eq_true c10
             clear c10
             have H' := Aside0.mk H
             clear H
             have p120 : 0 ≤ (x7_1 : Int) := of_decide_eq_true (by with_reducible assumption)
             have q120 : x7_1 < (l1.length : Int) := of_decide_eq_true (by with_reducible assumption)
             obtain ⟨ad120, e120, hx120_0, hx120_1⟩ := at_T30 HR1.out x7_1 p120 q120
             cases e120
             replace hx120_0 := (HB.out.cell (World.block_lt_of_cell? w _ hx120_0)).trans hx120_0
             replace hx120_1 := (HB.out.cell (World.block_lt_of_cell? w _ hx120_1)).trans hx120_1
             replace p120 := eq_true p120
             replace q120 := eq_true q120
             have p121 : 0 ≤ (x7_1 : Int) := of_decide_eq_true (by with_reducible assumption)
             have q121 : x7_1 < (l1.length : Int) := of_decide_eq_true (by with_reducible assumption)
             obtain ⟨ad121, e121, hx121_0, hx121_1⟩ := at_T30 HR1.out x7_1 p121 q121
             obtain rfl : ad120 = ad121 := (by injection e121)
             replace hx121_0 := (HB.out.cell (World.block_lt_of_cell? w _ hx121_0)).trans hx121_0
             replace hx121_1 := (HB.out.cell (World.block_lt_of_cell? w _ hx121_1)).trans hx121_1
             replace p121 := eq_true p121
             replace q121 := eq_true q121
             have hcz11_0 : wr.cell? ⟨gb113, 0, none⟩ = some (.int .i64 a0_0) := (blk_cell BK113.out 0).trans rfl
             have hcz11_1 : wr.cell? ⟨gb113, 1, none⟩ = some (.int .i64 a0_1) := (blk_cell BK113.out 1).trans rfl
             have hfz11_0 := blk_frozen BK113.out 0
             have hfz11_1 := blk_frozen BK113.out 1
             go_wp2
             repeat (go_quiet (fail); try go_wp2)
             go_meet
             case rel => exact ⟨_, (decide (((rd_T30 l1 x7_1).f0) < a0_1)), (by (rfl)), H', ⟨by have := HK1.out; (omega)⟩, ⟨by (with_reducible repeat ((apply Kd.R_drewN))); exact HO_5.out⟩, ⟨by (with_reducible repeat ((refine blk_drewN ?_ _))); exact BK113.out⟩, ⟨by repeat (((with_reducible first | exact HB.out | apply pw_below_drewN)))⟩⟩
           · rw [if_neg c10] at H
             have c10b0 : decide (x6_1 < ((rd_T30 l1 x7_1).f1)) = false := decide_eq_false c10
             clear c10
             have H' := Aside0.mk H
             clear H
             have p120 : 0 ≤ (x7_1 : Int) := of_decide_eq_true (by with_reducible assumption)
             have q120 : x7_1 < (l1.length : Int) := of_decide_eq_true (by with_reducible assumption)
             obtain ⟨ad120, e120, hx120_0, hx120_1⟩ := at_T30 HR1.out x7_1 p120 q120
             cases e120
             replace hx120_0 := (HB.out.cell (World.block_lt_of_cell? w _ hx120_0)).trans hx120_0
             replace hx120_1 := (HB.out.cell (World.block_lt_of_cell? w _ hx120_1)).trans hx120_1
             replace p120 := eq_true p120
             replace q120 := eq_true q120
             go_wp2
             repeat (go_quiet (fail); try go_wp2)
             go_meet
             case rel => exact ⟨_, (false), (by (rfl)), H', ⟨by have := HK1.out; (omega)⟩, ⟨by (with_reducible repeat ((apply Kd.R_drewN))); exact HO_5.out⟩, ⟨by (with_reducible repeat ((refine blk_drewN ?_ _))); exact BK113.out⟩, ⟨by repeat (((with_reducible first | exact HB.out | apply pw_below_drewN)))⟩⟩
         · rw [if_neg c9] at H
           exact absurd H (by simp)
       case rest =>
         clear HC8
         try clear c1
         try clear p1
         try clear q1
         try clear hx1
         try clear p2
         try clear c4
         try clear c7
         try clear c7b0
         try clear c9
         try clear c9b0
         try clear c10
         try clear c10b0
         try clear hcz11_0
         try clear hcz11_1
         try clear hcz6_0
         try clear hcz6_1
         try clear hfz11_0
         try clear hfz11_1
         try clear hfz6_0
         try clear hfz6_1
         try clear hx120_0
         try clear hx120_1
         try clear hx121_0
         try clear hx121_1
         try clear p120
         try clear p121
         try clear p2
         try clear q120
         try clear q121
         obtain ⟨kq, x33_7, rfl, HA, HJ7, HO_5, BK113, HB⟩ := hcut
         cases kq with
         | zero => exact absurd HA.out (by simp [spec_l32Without.j1])
         | succ kj7 =>
           have H := HA.out
           clear HA
           simp only [spec_l32Without.j1] at H
           by_cases c12 : x33_7 = true
           · subst c12
             have H1 : (if 0 ≤ x7_1 then (if x7_1 < (l1.length : Int) then (if ((rd_T30 l1 x7_1).f0) > x6_1 then (if x5_1.length < 8796093022208 then (spec_l32Without.l0 kj7 l1 (x5_1 ++ [(⟨x6_1, (rd_T30 l1 x7_1).f0⟩ : S30)]) ((rd_T30 l1 x7_1).f1) (wrap64 (x7_1 + 1)) a0_0 a0_1) else (none)) else (spec_l32Without.l0 kj7 l1 x5_1 ((rd_T30 l1 x7_1).f1) (wrap64 (x7_1 + 1)) a0_0 a0_1)) else (none)) else (none)) = some r := by rw [if_pos rfl] at H; exact H
             clear H
             have H := H1
             clear H1
             by_cases c13 : 0 ≤ x7_1
             · rw [if_pos c13] at H
               have c13b0 : decide (0 ≤ x7_1) = true := decide_eq_true c13
               clear c13
               by_cases c14 : x7_1 < (l1.length : Int)
               · rw [if_pos c14] at H
                 have c14b0 : decide (x7_1 < (l1.length : Int)) = true := decide_eq_true c14
                 clear c14
                 by_cases c15 : ((rd_T30 l1 x7_1).f0) > x6_1
                 · rw [if_pos c15] at H
                   have c15b0 : decide (x6_1 < ((rd_T30 l1 x7_1).f0)) = true := decide_eq_true c15
                   clear c15
                   by_cases c16 : x5_1.length < 8796093022208
                   · rw [if_pos c16] at H
                     have LMc16 := Aside0.mk c16
                     clear c16
                     obtain ⟨y124, hy124⟩ : ∃ y_ : List (S30), y_ = (x5_1 ++ [(⟨x6_1, (rd_T30 l1 x7_1).f0⟩ : S30)]) := ⟨_, rfl⟩
                     replace H : (spec_l32Without.l0 kj7 l1 y124 ((rd_T30 l1 x7_1).f1) (wrap64 (x7_1 + 1)) a0_0 a0_1) = some r := by ((rw [hy124]; with_reducible exact H))
                     have Ny124 := Aside0.mk hy124
                     clear hy124
                     have H' := Aside0.mk H
                     clear H
                     have p122 : 0 ≤ (x7_1 : Int) := of_decide_eq_true (by with_reducible assumption)
                     have q122 : x7_1 < (l1.length : Int) := of_decide_eq_true (by with_reducible assumption)
                     obtain ⟨ad122, e122, hx122_0, hx122_1⟩ := at_T30 HR1.out x7_1 p122 q122
                     cases e122
                     replace hx122_0 := (HB.out.cell (World.block_lt_of_cell? w _ hx122_0)).trans hx122_0
                     replace hx122_1 := (HB.out.cell (World.block_lt_of_cell? w _ hx122_1)).trans hx122_1
                     replace p122 := eq_true p122
                     replace q122 := eq_true q122
                     have p123 : 0 ≤ (x7_1 : Int) := of_decide_eq_true (by with_reducible assumption)
                     have q123 : x7_1 < (l1.length : Int) := of_decide_eq_true (by with_reducible assumption)
                     obtain ⟨ad123, e123, hx123_0, hx123_1⟩ := at_T30 HR1.out x7_1 p123 q123
                     obtain rfl : ad122 = ad123 := (by injection e123)
                     replace hx123_0 := (HB.out.cell (World.block_lt_of_cell? w _ hx123_0)).trans hx123_0
                     replace hx123_1 := (HB.out.cell (World.block_lt_of_cell? w _ hx123_1)).trans hx123_1
                     replace p123 := eq_true p123
                     replace q123 := eq_true q123
                     go_wp2_with ((((with_reducible refine gate_builtin (b := .append) (xs := #[.tmp 41, .tmp 49]) rfl ?_); at_builtin; refine Kd.R_append k30 (w0 := w) w.heap.size rfl (.tmp 41) (.tmp 49) 28 30 (.agg #[(.int .i64 0), (.int .i64 0)]) 16 rfl Tp.underlying28 info30 rfl (by decide) (by omega) u5 x5_1 (⟨x6_1, (rd_T30 l1 x7_1).f0⟩ : S30) [.int .i64 x6_1, .int .i64 ((rd_T30 l1 x7_1).f0)] (fun k_ => k_ ≠ gb113) (fun _ => False) rfl rfl ?aP (fun _ hk => hk.elim) ?aF ?aO ?aB ?aS ?aL ?_; (case aP => exact k30_mkM _ _ _ (⟨x6_1, (rd_T30 l1 x7_1).f0⟩ : S30)); (case aB => exact HB.out); (case aF => exact (fun k_ hk => Kd.freshB (g := gb113) (o := .cells #[.int .i64 a0_0, .int .i64 a0_1] 30 (0, 0)) (by exact BK113.out) k_ hk)); (case aO => exact (by exact HO_5.out)); (case aS => exact (below_size HB.out)); (case aL => have := LMc16.out; omega); intro v125 w17 ho hb hg hat; rw [← Ny124.out] at ho; have n0_ := Aside0.mk (blk_grown (g := gb113) (o := .cells #[.int .i64 a0_0, .int .i64 a0_1] 30 (0, 0)) (by exact BK113.out) hg (Kd.R_away HO_5.out (fun _ hk => hk))); have n1_ := Aside0.mk (hb); have n2_ := Aside0.mk (ho); clear BK113; clear HB; clear HO_5; have BK113 := n0_; have HB := n1_; have HO126 := n2_; clear n0_ n1_ n2_; clear ho hb hg hat; have p127 : 0 ≤ (x7_1 : Int) := of_decide_eq_true (by with_reducible assumption); have q127 : x7_1 < (l1.length : Int) := of_decide_eq_true (by with_reducible assumption); obtain ⟨ad127, e127, hx127_0, hx127_1⟩ := at_T30 HR1.out x7_1 p127 q127; obtain rfl : ad122 = ad127 := (by injection e127); replace hx127_0 := (HB.out.cell (World.block_lt_of_cell? w _ hx127_0)).trans hx127_0; replace hx127_1 := (HB.out.cell (World.block_lt_of_cell? w _ hx127_1)).trans hx127_1; replace p127 := eq_true p127; replace q127 := eq_true q127)))
                     repeat (go_quiet (fail); try go_wp2_with (fail))
                     go_roundg kj7
                     case measure => have := HK1.out; have := HJ7.out; omega
                     case rel => exact ⟨(y124), ((rd_T30 l1 x7_1).f1), (wrap64 (x7_1 + 1)), (by (rfl)), (by (rfl)), H', ⟨by have := HK1.out; have := HJ7.out; omega⟩, ⟨by exact HO126.out⟩, ⟨by exact BK113.out⟩, ⟨HB.out⟩⟩
                   · rw [if_neg c16] at H
                     exact absurd H (by simp)
                 · rw [if_neg c15] at H
                   have c15b0 : decide (x6_1 < ((rd_T30 l1 x7_1).f0)) = false := decide_eq_false c15
                   clear c15
                   have H' := Aside0.mk H
                   clear H
                   have p122 : 0 ≤ (x7_1 : Int) := of_decide_eq_true (by with_reducible assumption)
                   have q122 : x7_1 < (l1.length : Int) := of_decide_eq_true (by with_reducible assumption)
                   obtain ⟨ad122, e122, hx122_0, hx122_1⟩ := at_T30 HR1.out x7_1 p122 q122
                   cases e122
                   replace hx122_0 := (HB.out.cell (World.block_lt_of_cell? w _ hx122_0)).trans hx122_0
                   replace hx122_1 := (HB.out.cell (World.block_lt_of_cell? w _ hx122_1)).trans hx122_1
                   replace p122 := eq_true p122
                   replace q122 := eq_true q122
                   have p128 : 0 ≤ (x7_1 : Int) := of_decide_eq_true (by with_reducible assumption)
                   have q128 : x7_1 < (l1.length : Int) := of_decide_eq_true (by with_reducible assumption)
                   obtain ⟨ad128, e128, hx128_0, hx128_1⟩ := at_T30 HR1.out x7_1 p128 q128
                   obtain rfl : ad122 = ad128 := (by injection e128)
                   replace hx128_0 := (HB.out.cell (World.block_lt_of_cell? w _ hx128_0)).trans hx128_0
                   replace hx128_1 := (HB.out.cell (World.block_lt_of_cell? w _ hx128_1)).trans hx128_1
                   replace p128 := eq_true p128
                   replace q128 := eq_true q128
                   go_wp2
                   repeat (go_quiet (fail); try go_wp2)
                   go_roundg kj7
                   case measure => have := HK1.out; have := HJ7.out; omega
                   case rel => exact ⟨(x5_1), ((rd_T30 l1 x7_1).f1), (wrap64 (x7_1 + 1)), (by (rfl)), (by (rfl)), H', ⟨by have := HK1.out; have := HJ7.out; omega⟩, ⟨by exact HO_5.out⟩, ⟨by exact BK113.out⟩, ⟨HB.out⟩⟩
               · rw [if_neg c14] at H
                 exact absurd H (by simp)
             · rw [if_neg c13] at H
               exact absurd H (by simp)
           · replace c12 := Bool.eq_false_iff.mpr c12
             subst c12
             have H1 : (spec_l32Without.l0 kj7 l1 x5_1 x6_1 (wrap64 (x7_1 + 1)) a0_0 a0_1) = some r := by rw [if_neg (show ¬ (false = true) by decide)] at H; exact H
             clear H
             have H := H1
             clear H1
             have H' := Aside0.mk H
             clear H
             go_wp2
             repeat (go_quiet (fail); try go_wp2)
             go_roundg kj7
             case measure => have := HK1.out; have := HJ7.out; omega
             case rel => exact ⟨(x5_1), (x6_1), (wrap64 (x7_1 + 1)), (by (rfl)), (by (rfl)), H', ⟨by have := HK1.out; have := HJ7.out; omega⟩, ⟨by exact HO_5.out⟩, ⟨by exact BK113.out⟩, ⟨HB.out⟩⟩
     · rw [if_neg c7] at H
       have c7b0 : decide (x7_1 < (l1.length : Int)) = false := decide_eq_false c7
       clear c7
       by_cases c18 : x6_1 < a0_1
       · rw [if_pos c18] at H
         have c18b0 : decide (x6_1 < a0_1) = true := decide_eq_true c18
         clear c18
         by_cases c19 : x5_1.length < 8796093022208
         · rw [if_pos c19] at H
           have LMc19 := Aside0.mk c19
           clear c19
           obtain ⟨y117, hy117⟩ : ∃ y_ : List (S30), y_ = (x5_1 ++ [(⟨x6_1, a0_1⟩ : S30)]) := ⟨_, rfl⟩
           replace H : (some y117) = some r := by ((rw [hy117]; with_reducible exact H))
           have Ny117 := Aside0.mk hy117
           clear hy117
           obtain rfl := Option.some.inj H
           have hcz20_0 : wr.cell? ⟨gb113, 0, none⟩ = some (.int .i64 a0_0) := (blk_cell BK113.out 0).trans rfl
           have hcz20_1 : wr.cell? ⟨gb113, 1, none⟩ = some (.int .i64 a0_1) := (blk_cell BK113.out 1).trans rfl
           have hfz20_0 := blk_frozen BK113.out 0
           have hfz20_1 := blk_frozen BK113.out 1
           go_wp2_with ((((with_reducible refine gate_builtin (b := .append) (xs := #[.tmp 60, .tmp 65]) rfl ?_); at_builtin; refine Kd.R_append k30 (w0 := w) w.heap.size rfl (.tmp 60) (.tmp 65) 28 30 (.agg #[(.int .i64 0), (.int .i64 0)]) 16 rfl Tp.underlying28 info30 rfl (by decide) (by omega) u5 x5_1 (⟨x6_1, a0_1⟩ : S30) [.int .i64 x6_1, .int .i64 a0_1] (fun k_ => k_ ≠ gb113) (fun _ => False) rfl rfl ?aP (fun _ hk => hk.elim) ?aF ?aO ?aB ?aS ?aL ?_; (case aP => exact k30_mkM _ _ _ (⟨x6_1, a0_1⟩ : S30)); (case aB => exact HB.out); (case aF => exact (fun k_ hk => Kd.freshB (g := gb113) (o := .cells #[.int .i64 a0_0, .int .i64 a0_1] 30 (0, 0)) (by exact BK113.out) k_ hk)); (case aO => exact (by exact HO_5.out)); (case aS => exact (below_size HB.out)); (case aL => have := LMc19.out; omega); intro v118 w21 ho hb hg hat; rw [← Ny117.out] at ho; have n0_ := Aside0.mk (blk_grown (g := gb113) (o := .cells #[.int .i64 a0_0, .int .i64 a0_1] 30 (0, 0)) (by exact BK113.out) hg (Kd.R_away HO_5.out (fun _ hk => hk))); have n1_ := Aside0.mk (hb); have n2_ := Aside0.mk (ho); clear BK113; clear HB; clear HO_5; have BK113 := n0_; have HB := n1_; have HO119 := n2_; clear n0_ n1_ n2_; clear ho hb hg hat)))
           repeat (go_quiet (fail); try go_wp2_with (fail))
           go_ret
           exact ⟨_, by (rfl), by exact Kd.R_mono HO119.out (fun _ hk => trivial), HB.out⟩
         · rw [if_neg c19] at H
           exact absurd H (by simp)
       · rw [if_neg c18] at H
         have c18b0 : decide (x6_1 < a0_1) = false := decide_eq_false c18
         clear c18
         obtain rfl := Option.some.inj H
         have hcz22_0 : wr.cell? ⟨gb113, 0, none⟩ = some (.int .i64 a0_0) := (blk_cell BK113.out 0).trans rfl
         have hcz22_1 : wr.cell? ⟨gb113, 1, none⟩ = some (.int .i64 a0_1) := (blk_cell BK113.out 1).trans rfl
         have hfz22_0 := blk_frozen BK113.out 0
         have hfz22_1 := blk_frozen BK113.out 1
         go_wp2
         repeat (go_quiet (fail); try go_wp2)
         go_ret
         exact ⟨_, by (rfl), by exact Kd.R_mono HO_5.out (fun _ hk => trivial), HB.out⟩
def spec_FreeRanges.l0 : Nat → Int → List (S30) → List (S30) → Int → Option ((List (S30)))
 | 0, _, _, _, _ => none
 | k + 1, x2, x7, x8, x9 => if x9 < (x8.length : Int) then (if 0 ≤ x9 then (if (wrap64 (((rd_T30 x8 x9).f1) - ((rd_T30 x8 x9).f0))) ≥ x2 then (if x7.length < 8796093022208 then (spec_FreeRanges.l0 k x2 (x7 ++ [(⟨(rd_T30 x8 x9).f0, (rd_T30 x8 x9).f1⟩ : S30)]) x8 (wrap64 (x9 + 1))) else (none)) else (spec_FreeRanges.l0 k x2 x7 x8 (wrap64 (x9 + 1)))) else (none)) else (some x7)
def spec_FreeRanges.f (k : Nat) (l0 : List (S30)) (a1_0 : Int) (a1_1 : Int) (a2 : Int) : Option ((List (S30))) := (some (([] : List (S30)) : List (S30))).bind fun y130 => ((spec_l42Ok.f k l0 a1_0 a1_1 a2).bind fun t133 => (if t133 = true then ((spec_l32Without.f k a1_0 a1_1 l0).bind fun t134 => (spec_FreeRanges.l0 k a2 y130 t134 0)) else (some y130)))
set_option maxHeartbeats 8000000 in
set_option maxRecDepth 100000 in
theorem spec_FreeRanges.calls (k : Nat) (A0 : Option Addr) (c0 : Nat) (l0 : List (S30)) (a1_0 : Int) (a1_1 : Int) (a2 : Int) (r : List (S30)) (w : World) (hr0 : Kd.C k30 w A0 l0.length l0) (hc0 : l0.length ≤ c0) (h : spec_FreeRanges.f k l0 a1_0 a1_1 a2 = some r) :
   Calls Tp.prog 20 #[.slice A0 l0.length c0, .agg #[.int .i64 a1_0, .int .i64 a1_1], .int .i64 a2] w fun e w' => ∃ v0_ : Value, e = .returned (v0_) ∧ Kd.R k30 30 w' w.heap.size (fun _ => True) v0_ r ∧ Below w.heap.size w w' := by
 have hu30 := Tp.underlying30
 have HR0 := Aside0.mk hr0
 have HC0 := Aside0.mk hc0
 clear hr0 hc0
 have HB := Aside0.mk (Below.refl w.heap.size w)
 have H : ((some (([] : List (S30)) : List (S30))).bind fun y130 => ((spec_l42Ok.f k l0 a1_0 a1_1 a2).bind fun t133 => (if t133 = true then ((spec_l32Without.f k a1_0 a1_1 l0).bind fun t134 => (spec_FreeRanges.l0 k a2 y130 t134 0)) else (some y130)))) = some r := h
 clear h
 obtain ⟨y130, hy130⟩ : ∃ y_ : List (S30), y_ = (([] : List (S30))) := ⟨_, rfl⟩
 replace H : ((spec_l42Ok.f k l0 a1_0 a1_1 a2).bind fun t133 => (if t133 = true then ((spec_l32Without.f k a1_0 a1_1 l0).bind fun t134 => (spec_FreeRanges.l0 k a2 y130 t134 0)) else (some y130))) = some r := by ((have H2_ := (Option.bind_some _ _).symm.trans H; rw [hy130]; with_reducible exact H2_))
 have Ny130 := Aside0.mk hy130
 clear hy130
 replace H := Option.bind_eq_some_iff.mp H
 obtain ⟨t133, A40, H⟩ := H
 replace H : (if t133 = true then ((spec_l32Without.f k a1_0 a1_1 l0).bind fun t134 => (spec_FreeRanges.l0 k a2 y130 t134 0)) else (some y130)) = some r := H
 have A4 := Aside0.mk A40
 clear A40
 by_cases c5 : t133 = true
 · subst c5
   have H1 : ((spec_l32Without.f k a1_0 a1_1 l0).bind fun t134 => (spec_FreeRanges.l0 k a2 y130 t134 0)) = some r := by rw [if_pos rfl] at H; exact H
   clear H
   have H := H1
   clear H1
   replace H := Option.bind_eq_some_iff.mp H
   obtain ⟨t134, A60, H⟩ := H
   replace H : (spec_FreeRanges.l0 k a2 y130 t134 0) = some r := H
   have A6 := Aside0.mk A60
   clear A60
   have H' := Aside0.mk H
   clear H
   go_enter Tp.func20, Try.ntmps20
   go_wp2_with (first | ((with_reducible refine gate_dst (N := 4) rfl ?_); refine box_event ?hg (N := 4) ?hd (cs := #[.int .i64 a1_0, .int .i64 a1_1]) (t := 30) ?hr ?_; (case hd => rfl); (case hg => rfl); (case hr => (go_simp; done)); intro gb129 hg w7 hbox hb; have n0_ := Aside0.mk (below_step HB.out hb); have n1_ := Aside0.mk (hbox); have n2_ := Aside0.mk ((by rw [hg]; exact (below_size HB.out) : w.heap.size ≤ gb129)); have n3_ := Aside0.mk ((by rw [hg]; exact (below_size HB.out) : w.heap.size ≤ gb129)); clear HB; have HB := n0_; have BK129 := n1_; have GW129 := n2_; have GE129 := n3_; clear n0_ n1_ n2_ n3_; clear hb hbox hg) | ((with_reducible refine gate_dst (N := 10) rfl ?_); refine Kd.R_lit k30 _ 30 ?hg (N := 10) ?hd (xs := ([] : List (S30))) (inner := []) (ok := fun _ => True) (okp := fun _ => True) ?hr ?hp (fun _ hk => hk) trivial (Below.refl _ _) (Nat.le_refl _) (by simp) ?_; (case hd => rfl); (case hg => rfl); (case hr => (go_simp; done)); (case hp => exact (Reps.none _ _)); intro v131 w8 ho9 hb hg_ hnew_; clear hg_ hnew_; ((rw [← Ny130.out] at ho9)); have n0_ := Aside0.mk (Kd.R_lower (Kd.R_newB ho9 (g := gb129) (o := .cells #[.int .i64 a1_0, .int .i64 a1_1] 30 (0, 0)) (by exact BK129.out)) (below_size HB.out)); have n1_ := Aside0.mk (blk_below (g := gb129) (o := .cells #[.int .i64 a1_0, .int .i64 a1_1] 30 (0, 0)) (by exact BK129.out) hb); have n2_ := Aside0.mk (below_step HB.out hb); clear BK129; clear HB; have HO132 := n0_; have BK129 := n1_; have HB := n2_; clear n0_ n1_ n2_; clear hb ho9; have hcz10_0 : w8.cell? ⟨gb129, 0, none⟩ = some (.int .i64 a1_0) := (blk_cell BK129.out 0).trans rfl; have hcz10_1 : w8.cell? ⟨gb129, 1, none⟩ = some (.int .i64 a1_1) := (blk_cell BK129.out 1).trans rfl; have hfz10_0 := blk_frozen BK129.out 0; have hfz10_1 := blk_frozen BK129.out 1) | (go_at_call 40; (with_reducible refine (spec_l42Ok.calls k _ _ l0 a1_0 a1_1 a2 true _ ?side1 ?side2 A4.out).mono ?_); (case side1 => exact Kd.C_below HR0.out HB.out); (case side2 => exact HC0.out); rintro e w11 ⟨rfl, hb⟩; have n0_ := Aside0.mk (Kd.R_below (by exact HO132.out) hb); have n1_ := Aside0.mk (blk_below (g := gb129) (o := .cells #[.int .i64 a1_0, .int .i64 a1_1] 30 (0, 0)) (by exact BK129.out) hb); have n2_ := Aside0.mk (below_step HB.out hb); clear HO132; clear BK129; clear HB; have HO132 := n0_; have BK129 := n1_; have HB := n2_; clear n0_ n1_ n2_; (try clear hb); (try clear hb2); (try clear hk); (try clear hi); have hcz12_0 : w11.cell? ⟨gb129, 0, none⟩ = some (.int .i64 a1_0) := (blk_cell BK129.out 0).trans rfl; have hcz12_1 : w11.cell? ⟨gb129, 1, none⟩ = some (.int .i64 a1_1) := (blk_cell BK129.out 1).trans rfl; have hfz12_0 := blk_frozen BK129.out 0; have hfz12_1 := blk_frozen BK129.out 1) | (go_at_call 41; (with_reducible refine (spec_l32Without.calls k a1_0 a1_1 _ _ l0 t134 _ ?side1 ?side2 A6.out).mono ?_); (case side1 => exact Kd.C_below HR0.out HB.out); (case side2 => exact HC0.out); rintro e w13 ⟨v135, rfl, ho0, hb⟩; have n0_ := Aside0.mk (Kd.R_elder' (by exact HO132.out) (Kd.R_base ho0) hb); have n1_ := Aside0.mk (Kd.R_lower (Kd.R_newB (Kd.R_new' ho0 (Kd.R_lt (by exact HO132.out))) (g := gb129) (o := .cells #[.int .i64 a1_0, .int .i64 a1_1] 30 (0, 0)) (by exact BK129.out)) (below_size HB.out)); have n2_ := Aside0.mk (blk_below (g := gb129) (o := .cells #[.int .i64 a1_0, .int .i64 a1_1] 30 (0, 0)) (by exact BK129.out) hb); have n3_ := Aside0.mk (below_step HB.out hb); clear HO132; clear BK129; clear HB; have HO132 := n0_; have HO136 := n1_; have BK129 := n2_; have HB := n3_; clear n0_ n1_ n2_ n3_; (try clear hb); (try clear hb2); (try clear hk); (try clear hi); (try clear ho0)))
   repeat (go_quiet (fail); try go_wp2_with (fail))
   go_loopg [7, 9] k (fun kq v7 v9 w' => ∃ (x7_1 : List (S30)) (x9_1 : Int), v9 = .int .i64 x9_1 ∧ Aside0 (spec_FreeRanges.l0 kq a2 x7_1 t134 x9_1 = some r) ∧ Aside0 (kq ≤ k) ∧ Aside0 (Kd.R k30 30 w' w.heap.size (fun k_ => some k_ ≠ (v135 : Value).ownBlock ∧ k_ ≠ gb129) v7 x7_1) ∧ Aside0 (Kd.R k30 30 w' w.heap.size (fun k_ => some k_ ≠ (v7 : Value).ownBlock ∧ k_ ≠ gb129) v135 t134) ∧ Aside0 (w'.heap[gb129]? = some (.cells #[.int .i64 a1_0, .int .i64 a1_1] 30 (0, 0))) ∧ Aside0 (Below w.heap.size w w'))
   case atStart => exact ⟨(y130), (0), (by (rfl)), H', ⟨Nat.le_refl _⟩, ⟨by exact Kd.R_mono HO132.out (fun _ hk => ⟨hk.2, hk.1.2⟩)⟩, ⟨by exact Kd.R_mono HO136.out (fun _ hk => ⟨hk.1.2, hk.2⟩)⟩, ⟨by exact BK129.out⟩, ⟨HB.out⟩⟩
   case round =>
     clear H'
     try clear c2
     try clear p2
     try clear c5
     try clear hcz10_0
     try clear hcz10_1
     try clear hcz12_0
     try clear hcz12_1
     try clear hfz10_0
     try clear hfz10_1
     try clear hfz12_0
     try clear hfz12_1
     obtain ⟨x7_1, x9_1, rfl, HA, HK1, HO_7, HO_8, BK129, HB⟩ := hrel
     cases gk with
     | zero => exact absurd HA.out (by simp [spec_FreeRanges.l0])
     | succ k1 =>
       have H := HA.out
       clear HA
       simp only [spec_FreeRanges.l0] at H
       by_cases c14 : x9_1 < (t134.length : Int)
       · rw [if_pos c14] at H
         have c14b0 : decide (x9_1 < (t134.length : Int)) = true := decide_eq_true c14
         clear c14
         by_cases c15 : 0 ≤ x9_1
         · rw [if_pos c15] at H
           have c15b0 : decide (0 ≤ x9_1) = true := decide_eq_true c15
           clear c15
           by_cases c16 : (wrap64 (((rd_T30 t134 x9_1).f1) - ((rd_T30 t134 x9_1).f0))) ≥ a2
           · rw [if_pos c16] at H
             have c16b0 : decide (a2 ≤ (wrap64 (((rd_T30 t134 x9_1).f1) - ((rd_T30 t134 x9_1).f0)))) = true := decide_eq_true c16
             clear c16
             by_cases c17 : x7_1.length < 8796093022208
             · rw [if_pos c17] at H
               have LMc17 := Aside0.mk c17
               clear c17
               obtain ⟨y140, hy140⟩ : ∃ y_ : List (S30), y_ = (x7_1 ++ [(⟨(rd_T30 t134 x9_1).f0, (rd_T30 t134 x9_1).f1⟩ : S30)]) := ⟨_, rfl⟩
               replace H : (spec_FreeRanges.l0 k1 a2 y140 t134 (wrap64 (x9_1 + 1))) = some r := by ((rw [hy140]; with_reducible exact H))
               have Ny140 := Aside0.mk hy140
               clear hy140
               have H' := Aside0.mk H
               clear H
               obtain ⟨Ao18, co18, eo18⟩ := Kd.R_slice HO_8.out
               subst eo18
               have p137 : 0 ≤ (x9_1 : Int) := of_decide_eq_true (by with_reducible assumption)
               have q137 : x9_1 < (t134.length : Int) := of_decide_eq_true (by with_reducible assumption)
               obtain ⟨ad137, e137, hx137_0, hx137_1⟩ := at_T30 (Kd.R_reads' HO_8.out).2.2 x9_1 p137 q137
               cases e137
               replace p137 := eq_true p137
               replace q137 := eq_true q137
               have p138 : 0 ≤ (x9_1 : Int) := of_decide_eq_true (by with_reducible assumption)
               have q138 : x9_1 < (t134.length : Int) := of_decide_eq_true (by with_reducible assumption)
               obtain ⟨ad138, e138, hx138_0, hx138_1⟩ := at_T30 (Kd.R_reads' HO_8.out).2.2 x9_1 p138 q138
               obtain rfl : ad137 = ad138 := (by injection e138)
               replace p138 := eq_true p138
               replace q138 := eq_true q138
               have p139 : 0 ≤ (x9_1 : Int) := of_decide_eq_true (by with_reducible assumption)
               have q139 : x9_1 < (t134.length : Int) := of_decide_eq_true (by with_reducible assumption)
               obtain ⟨ad139, e139, hx139_0, hx139_1⟩ := at_T30 (Kd.R_reads' HO_8.out).2.2 x9_1 p139 q139
               obtain rfl : ad137 = ad139 := (by injection e139)
               replace p139 := eq_true p139
               replace q139 := eq_true q139
               go_wp2_with (fail)
               repeat (go_quiet (fail); try go_wp2_with ((((with_reducible refine gate_builtin (b := .append) (xs := #[.tmp 39, .tmp 44]) rfl ?_); at_builtin; refine Kd.R_append k30 (w0 := w) w.heap.size rfl (.tmp 39) (.tmp 44) 28 30 (.agg #[(.int .i64 0), (.int .i64 0)]) 16 rfl Tp.underlying28 info30 rfl (by decide) (by omega) u7 x7_1 (⟨(rd_T30 t134 x9_1).f0, (rd_T30 t134 x9_1).f1⟩ : S30) [.int .i64 ((rd_T30 t134 x9_1).f0), .int .i64 ((rd_T30 t134 x9_1).f1)] (fun k_ => some k_ ≠ (.slice (some ad137) t134.length co18 : Value).ownBlock ∧ k_ ≠ gb129) (fun _ => False) rfl rfl ?aP (fun _ hk => hk.elim) ?aF ?aO ?aB ?aS ?aL ?_; (case aP => exact k30_mkM _ _ _ (⟨(rd_T30 t134 x9_1).f0, (rd_T30 t134 x9_1).f1⟩ : S30)); (case aB => exact (by repeat (((with_reducible first | exact HB.out | apply pw_below_drewN))))); (case aF => exact (fun k_ hk => ⟨Kd.fresh' (Kd.R_lt (by (with_reducible repeat ((apply Kd.R_drewN))); exact HO_8.out)) k_ hk, Kd.freshB (g := gb129) (o := .cells #[.int .i64 a1_0, .int .i64 a1_1] 30 (0, 0)) (by (with_reducible repeat ((refine blk_drewN ?_ _))); exact BK129.out) k_ hk⟩)); (case aO => exact (by (with_reducible repeat ((apply Kd.R_drewN))); exact HO_7.out)); (case aS => exact (below_size (by repeat (((with_reducible first | exact HB.out | apply pw_below_drewN)))))); (case aL => have := LMc17.out; omega); intro v141 w19 ho hb hg hat; rw [← Ny140.out] at ho; have n0_ := Aside0.mk (Kd.R_after (ok := (fun k_ => k_ ≠ gb129)) (by (with_reducible repeat ((apply Kd.R_drewN))); exact Kd.R_mono HO_8.out (fun _ hk => ⟨hk.2, hk.1⟩)) hg hat); have n1_ := Aside0.mk (blk_grown (g := gb129) (o := .cells #[.int .i64 a1_0, .int .i64 a1_1] 30 (0, 0)) (by (with_reducible repeat ((refine blk_drewN ?_ _))); exact BK129.out) hg (Kd.R_away HO_7.out (fun _ hk => hk.2))); have n2_ := Aside0.mk (hb); have n3_ := Aside0.mk (ho); clear HO_8; clear BK129; clear HB; clear HO_7; have HO_8 := n0_; have BK129 := n1_; have HB := n2_; have HO142 := n3_; clear n0_ n1_ n2_ n3_; clear ho hb hg hat))))
               go_roundg k1
               case measure => have := HK1.out; omega
               case rel => exact ⟨(y140), (wrap64 (x9_1 + 1)), (by (rfl)), H', ⟨by have := HK1.out; omega⟩, ⟨by exact HO142.out⟩, ⟨by exact Kd.R_mono HO_8.out (fun _ hk => ⟨hk.2, hk.1⟩)⟩, ⟨by exact BK129.out⟩, ⟨HB.out⟩⟩
             · rw [if_neg c17] at H
               exact absurd H (by simp)
           · rw [if_neg c16] at H
             have c16b0 : decide (a2 ≤ (wrap64 (((rd_T30 t134 x9_1).f1) - ((rd_T30 t134 x9_1).f0)))) = false := decide_eq_false c16
             clear c16
             have H' := Aside0.mk H
             clear H
             obtain ⟨Ao20, co20, eo20⟩ := Kd.R_slice HO_8.out
             subst eo20
             have p137 : 0 ≤ (x9_1 : Int) := of_decide_eq_true (by with_reducible assumption)
             have q137 : x9_1 < (t134.length : Int) := of_decide_eq_true (by with_reducible assumption)
             obtain ⟨ad137, e137, hx137_0, hx137_1⟩ := at_T30 (Kd.R_reads' HO_8.out).2.2 x9_1 p137 q137
             cases e137
             replace p137 := eq_true p137
             replace q137 := eq_true q137
             have p138 : 0 ≤ (x9_1 : Int) := of_decide_eq_true (by with_reducible assumption)
             have q138 : x9_1 < (t134.length : Int) := of_decide_eq_true (by with_reducible assumption)
             obtain ⟨ad138, e138, hx138_0, hx138_1⟩ := at_T30 (Kd.R_reads' HO_8.out).2.2 x9_1 p138 q138
             obtain rfl : ad137 = ad138 := (by injection e138)
             replace p138 := eq_true p138
             replace q138 := eq_true q138
             go_wp2
             repeat (go_quiet (fail); try go_wp2)
             go_roundg k1
             case measure => have := HK1.out; omega
             case rel => exact ⟨(x7_1), (wrap64 (x9_1 + 1)), (by (rfl)), H', ⟨by have := HK1.out; omega⟩, ⟨by (with_reducible repeat ((apply Kd.R_drewN))); exact HO_7.out⟩, ⟨by (with_reducible repeat ((apply Kd.R_drewN))); exact HO_8.out⟩, ⟨by (with_reducible repeat ((refine blk_drewN ?_ _))); exact BK129.out⟩, ⟨by repeat (((with_reducible first | exact HB.out | apply pw_below_drewN)))⟩⟩
         · rw [if_neg c15] at H
           exact absurd H (by simp)
       · rw [if_neg c14] at H
         have c14b0 : decide (x9_1 < (t134.length : Int)) = false := decide_eq_false c14
         clear c14
         obtain rfl := Option.some.inj H
         obtain ⟨Ao21, co21, eo21⟩ := Kd.R_slice HO_8.out
         subst eo21
         go_wp2
         repeat (go_quiet (fail); try go_wp2)
         go_ret
         exact ⟨_, by (rfl), by exact Kd.R_mono HO_7.out (fun _ hk => trivial), HB.out⟩
 · replace c5 := Bool.eq_false_iff.mpr c5
   subst c5
   have H1 : (some y130) = some r := by rw [if_neg (show ¬ (false = true) by decide)] at H; exact H
   clear H
   have H := H1
   clear H1
   obtain rfl := Option.some.inj H
   go_enter Tp.func20, Try.ntmps20
   go_wp2_with (first | ((with_reducible refine gate_dst (N := 4) rfl ?_); refine box_event ?hg (N := 4) ?hd (cs := #[.int .i64 a1_0, .int .i64 a1_1]) (t := 30) ?hr ?_; (case hd => rfl); (case hg => rfl); (case hr => (go_simp; done)); intro gb129 hg w22 hbox hb; have n0_ := Aside0.mk (below_step HB.out hb); have n1_ := Aside0.mk (hbox); have n2_ := Aside0.mk ((by rw [hg]; exact (below_size HB.out) : w.heap.size ≤ gb129)); have n3_ := Aside0.mk ((by rw [hg]; exact (below_size HB.out) : w.heap.size ≤ gb129)); clear HB; have HB := n0_; have BK129 := n1_; have GW129 := n2_; have GE129 := n3_; clear n0_ n1_ n2_ n3_; clear hb hbox hg) | ((with_reducible refine gate_dst (N := 10) rfl ?_); refine Kd.R_lit k30 _ 30 ?hg (N := 10) ?hd (xs := ([] : List (S30))) (inner := []) (ok := fun _ => True) (okp := fun _ => True) ?hr ?hp (fun _ hk => hk) trivial (Below.refl _ _) (Nat.le_refl _) (by simp) ?_; (case hd => rfl); (case hg => rfl); (case hr => (go_simp; done)); (case hp => exact (Reps.none _ _)); intro v131 w23 ho24 hb hg_ hnew_; clear hg_ hnew_; ((rw [← Ny130.out] at ho24)); have n0_ := Aside0.mk (Kd.R_lower (Kd.R_newB ho24 (g := gb129) (o := .cells #[.int .i64 a1_0, .int .i64 a1_1] 30 (0, 0)) (by exact BK129.out)) (below_size HB.out)); have n1_ := Aside0.mk (blk_below (g := gb129) (o := .cells #[.int .i64 a1_0, .int .i64 a1_1] 30 (0, 0)) (by exact BK129.out) hb); have n2_ := Aside0.mk (below_step HB.out hb); clear BK129; clear HB; have HO132 := n0_; have BK129 := n1_; have HB := n2_; clear n0_ n1_ n2_; clear hb ho24; have hcz25_0 : w23.cell? ⟨gb129, 0, none⟩ = some (.int .i64 a1_0) := (blk_cell BK129.out 0).trans rfl; have hcz25_1 : w23.cell? ⟨gb129, 1, none⟩ = some (.int .i64 a1_1) := (blk_cell BK129.out 1).trans rfl; have hfz25_0 := blk_frozen BK129.out 0; have hfz25_1 := blk_frozen BK129.out 1) | (go_at_call 40; (with_reducible refine (spec_l42Ok.calls k _ _ l0 a1_0 a1_1 a2 false _ ?side1 ?side2 A4.out).mono ?_); (case side1 => exact Kd.C_below HR0.out HB.out); (case side2 => exact HC0.out); rintro e w26 ⟨rfl, hb⟩; have n0_ := Aside0.mk (Kd.R_below (by exact HO132.out) hb); have n1_ := Aside0.mk (blk_below (g := gb129) (o := .cells #[.int .i64 a1_0, .int .i64 a1_1] 30 (0, 0)) (by exact BK129.out) hb); have n2_ := Aside0.mk (below_step HB.out hb); clear HO132; clear BK129; clear HB; have HO132 := n0_; have BK129 := n1_; have HB := n2_; clear n0_ n1_ n2_; (try clear hb); (try clear hb2); (try clear hk); (try clear hi)))
   repeat (go_quiet (fail); try go_wp2_with (fail))
   go_ret
   exact ⟨_, by (rfl), by exact Kd.R_mono HO132.out (fun _ hk => trivial), HB.out⟩
def spec_FreeFirst.f (k : Nat) (l0 : List (S30)) (a1_0 : Int) (a1_1 : Int) (a2 : Int) : Option (Int × Bool) := (spec_FreeRanges.f k l0 a1_0 a1_1 a2).bind fun t144 => (if (t144.length : Int) = 0 then (some (0, false)) else (if 0 < (t144.length : Int) then (some ((rd_T30 t144 0).f0, true)) else (none)))
set_option maxHeartbeats 8000000 in
set_option maxRecDepth 100000 in
theorem spec_FreeFirst.calls (k : Nat) (A0 : Option Addr) (c0 : Nat) (l0 : List (S30)) (a1_0 : Int) (a1_1 : Int) (a2 : Int) (r1 : Int) (r2 : Bool) (w : World) (hr0 : Kd.C k30 w A0 l0.length l0) (hc0 : l0.length ≤ c0) (h : spec_FreeFirst.f k l0 a1_0 a1_1 a2 = some (r1, r2)) :
   Calls Tp.prog 15 #[.slice A0 l0.length c0, .agg #[.int .i64 a1_0, .int .i64 a1_1], .int .i64 a2] w fun e w' => e = .returned (.tuple #[.int .i64 r1, .bool r2]) ∧ Below w.heap.size w w' := by
 have hu30 := Tp.underlying30
 have HR0 := Aside0.mk hr0
 have HC0 := Aside0.mk hc0
 clear hr0 hc0
 have HB := Aside0.mk (Below.refl w.heap.size w)
 have H : ((spec_FreeRanges.f k l0 a1_0 a1_1 a2).bind fun t144 => (if (t144.length : Int) = 0 then (some (0, false)) else (if 0 < (t144.length : Int) then (some ((rd_T30 t144 0).f0, true)) else (none)))) = some (r1, r2) := h
 clear h
 replace H := Option.bind_eq_some_iff.mp H
 obtain ⟨t144, A40, H⟩ := H
 replace H : (if (t144.length : Int) = 0 then (some (0, false)) else (if 0 < (t144.length : Int) then (some ((rd_T30 t144 0).f0, true)) else (none))) = some (r1, r2) := H
 have A4 := Aside0.mk A40
 clear A40
 by_cases c5 : (t144.length : Int) = 0
 · rw [if_pos c5] at H
   have c5b0 : ((t144.length : Int) == 0) = true := beq_iff_eq.mpr c5
   have c5b1 : ((t144.length : Int) != 0) = false := bne_eq_false_iff_eq.mpr c5
   clear c5
   simp only [Option.some.injEq, Prod.mk.injEq] at H
   obtain ⟨rfl, rfl⟩ := H
   go_enter Tp.func15, Try.ntmps15
   go_wp2_with (first | ((with_reducible refine gate_dst (N := 4) rfl ?_); refine box_event ?hg (N := 4) ?hd (cs := #[.int .i64 a1_0, .int .i64 a1_1]) (t := 30) ?hr ?_; (case hd => rfl); (case hg => rfl); (case hr => (go_simp; done)); intro gb143 hg w6 hbox hb; have n0_ := Aside0.mk (below_step HB.out hb); have n1_ := Aside0.mk (hbox); have n2_ := Aside0.mk ((by rw [hg]; exact (below_size HB.out) : w.heap.size ≤ gb143)); have n3_ := Aside0.mk ((by rw [hg]; exact (below_size HB.out) : w.heap.size ≤ gb143)); clear HB; have HB := n0_; have BK143 := n1_; have GW143 := n2_; have GE143 := n3_; clear n0_ n1_ n2_ n3_; clear hb hbox hg; have hcz7_0 : w6.cell? ⟨gb143, 0, none⟩ = some (.int .i64 a1_0) := (blk_cell BK143.out 0).trans rfl; have hcz7_1 : w6.cell? ⟨gb143, 1, none⟩ = some (.int .i64 a1_1) := (blk_cell BK143.out 1).trans rfl; have hfz7_0 := blk_frozen BK143.out 0; have hfz7_1 := blk_frozen BK143.out 1) | ((with_reducible refine gate_callee (f := 20) rfl ?_); refine goesL_ (some 12) rfl rfl Tp.func20 (by kernel_rfl) rfl #[.slice A0 l0.length c0, .agg #[.int .i64 a1_0, .int .i64 a1_1], .int .i64 a2] rfl (by (try simp only [List.map_toArray, List.map_cons, List.map_nil]); (rfl)) ?_; (with_reducible refine (spec_FreeRanges.calls k _ _ l0 a1_0 a1_1 a2 t144 _ ?side1 ?side2 A4.out).mono ?_); (case side1 => exact Kd.C_below HR0.out HB.out); (case side2 => exact HC0.out); rintro e w8 ⟨v145, rfl, ho0, hb⟩; refine ⟨_, rfl, ?_⟩; have n0_ := Aside0.mk (Kd.R_lower (Kd.R_newB ho0 (g := gb143) (o := .cells #[.int .i64 a1_0, .int .i64 a1_1] 30 (0, 0)) (by exact BK143.out)) (below_size HB.out)); have n1_ := Aside0.mk (blk_below (g := gb143) (o := .cells #[.int .i64 a1_0, .int .i64 a1_1] 30 (0, 0)) (by exact BK143.out) hb); have n2_ := Aside0.mk (below_step HB.out hb); clear BK143; clear HB; have HO146 := n0_; have BK143 := n1_; have HB := n2_; clear n0_ n1_ n2_; (try clear hb); (try clear hb2); (try clear hk); (try clear hi); (try clear ho0); obtain ⟨Ao9, co9, eo9⟩ := Kd.R_slice HO146.out; subst eo9))
   go_ret2
   exact ⟨rfl, HB.out⟩
 · rw [if_neg c5] at H
   have c5b0 : ((t144.length : Int) == 0) = false := beq_eq_false_iff_ne.mpr c5
   have c5b1 : ((t144.length : Int) != 0) = true := bne_iff_ne.mpr c5
   have c5b2 : ¬ (t144 = []) := fun h_ => c5 (by rw [h_]; rfl)
   by_cases c10 : 0 < (t144.length : Int)
   · rw [if_pos c10] at H
     have c10b0 : decide (0 < (t144.length : Int)) = true := decide_eq_true c10
     have c10b1 : decide (0 < t144.length) = true := decide_eq_true (by omega)
     clear c10
     simp only [Option.some.injEq, Prod.mk.injEq] at H
     obtain ⟨rfl, rfl⟩ := H
     go_enter Tp.func15, Try.ntmps15
     go_wp2_with (first | ((with_reducible refine gate_dst (N := 4) rfl ?_); refine box_event ?hg (N := 4) ?hd (cs := #[.int .i64 a1_0, .int .i64 a1_1]) (t := 30) ?hr ?_; (case hd => rfl); (case hg => rfl); (case hr => (go_simp; done)); intro gb143 hg w11 hbox hb; have n0_ := Aside0.mk (below_step HB.out hb); have n1_ := Aside0.mk (hbox); have n2_ := Aside0.mk ((by rw [hg]; exact (below_size HB.out) : w.heap.size ≤ gb143)); have n3_ := Aside0.mk ((by rw [hg]; exact (below_size HB.out) : w.heap.size ≤ gb143)); clear HB; have HB := n0_; have BK143 := n1_; have GW143 := n2_; have GE143 := n3_; clear n0_ n1_ n2_ n3_; clear hb hbox hg; have hcz12_0 : w11.cell? ⟨gb143, 0, none⟩ = some (.int .i64 a1_0) := (blk_cell BK143.out 0).trans rfl; have hcz12_1 : w11.cell? ⟨gb143, 1, none⟩ = some (.int .i64 a1_1) := (blk_cell BK143.out 1).trans rfl; have hfz12_0 := blk_frozen BK143.out 0; have hfz12_1 := blk_frozen BK143.out 1) | ((with_reducible refine gate_callee (f := 20) rfl ?_); refine goesL_ (some 12) rfl rfl Tp.func20 (by kernel_rfl) rfl #[.slice A0 l0.length c0, .agg #[.int .i64 a1_0, .int .i64 a1_1], .int .i64 a2] rfl (by (try simp only [List.map_toArray, List.map_cons, List.map_nil]); (rfl)) ?_; (with_reducible refine (spec_FreeRanges.calls k _ _ l0 a1_0 a1_1 a2 t144 _ ?side1 ?side2 A4.out).mono ?_); (case side1 => exact Kd.C_below HR0.out HB.out); (case side2 => exact HC0.out); rintro e w13 ⟨v145, rfl, ho0, hb⟩; refine ⟨_, rfl, ?_⟩; have n0_ := Aside0.mk (Kd.R_lower (Kd.R_newB ho0 (g := gb143) (o := .cells #[.int .i64 a1_0, .int .i64 a1_1] 30 (0, 0)) (by exact BK143.out)) (below_size HB.out)); have n1_ := Aside0.mk (blk_below (g := gb143) (o := .cells #[.int .i64 a1_0, .int .i64 a1_1] 30 (0, 0)) (by exact BK143.out) hb); have n2_ := Aside0.mk (below_step HB.out hb); clear BK143; clear HB; have HO146 := n0_; have BK143 := n1_; have HB := n2_; clear n0_ n1_ n2_; (try clear hb); (try clear hb2); (try clear hk); (try clear hi); (try clear ho0); obtain ⟨Ao14, co14, eo14⟩ := Kd.R_slice HO146.out; subst eo14; have p147 : 0 ≤ (0 : Int) := (by omega); have q147 : 0 < (t144.length : Int) := of_decide_eq_true (by with_reducible assumption); obtain ⟨ad147, e147, hx147_0, hx147_1⟩ := at_T30 (Kd.R_reads' HO146.out).2.2 0 p147 q147; cases e147; have qi147 : (0 < t144.length) = True := eq_true (by omega); (try rw [show ((0 : Int)).toNat = 0 from rfl] at hx147_0); (try rw [show 0 * 2 = 0 from rfl] at hx147_0); (try rw [Addr.add_zero'] at hx147_0); (try rw [show ((0 : Int)).toNat = 0 from rfl] at hx147_1); (try rw [show 0 * 2 = 0 from rfl] at hx147_1); (try rw [Addr.add_zero'] at hx147_1); replace p147 := eq_true p147; replace q147 := eq_true q147))
     go_ret2
     exact ⟨rfl, HB.out⟩
   · rw [if_neg c10] at H
     exact absurd H (by simp)
def laws_toRange.f (a0_0 : Int) (a0_1 : Int) : Option (Int × Int) := some (a0_0, a0_1)
set_option maxHeartbeats 8000000 in
set_option maxRecDepth 100000 in
theorem laws_toRange.calls (a0_0 : Int) (a0_1 : Int) (r1 : Int) (r2 : Int) (w : World) (h : laws_toRange.f a0_0 a0_1 = some (r1, r2)) :
   Calls Tp.prog 17 #[.agg #[.int .i64 a0_0, .int .i64 a0_1]] w fun e w' => e = .returned (.agg #[.int .i64 r1, .int .i64 r2]) ∧ Below w.heap.size w w' := by
 have hu24 := Tp.underlying24
 have hu30 := Tp.underlying30
 have HB := Aside0.mk (Below.refl w.heap.size w)
 have H : (some (a0_0, a0_1)) = some (r1, r2) := h
 clear h
 simp only [Option.some.injEq, Prod.mk.injEq] at H
 obtain ⟨rfl, rfl⟩ := H
 go_enter Tp.func17, Try.ntmps17
 go_wp2_with (first | ((with_reducible refine gate_dst (N := 1) rfl ?_); refine box_event ?hg (N := 1) ?hd (cs := #[.int .i64 a0_0, .int .i64 a0_1]) (t := 24) ?hr ?_; (case hd => rfl); (case hg => rfl); (case hr => (go_simp; done)); intro gb148 hg w2 hbox hb; have n0_ := Aside0.mk (below_step HB.out hb); have n1_ := Aside0.mk (hbox); have n2_ := Aside0.mk ((by rw [hg]; exact (below_size HB.out) : w.heap.size ≤ gb148)); have n3_ := Aside0.mk ((by rw [hg]; exact (below_size HB.out) : w.heap.size ≤ gb148)); clear HB; have HB := n0_; have BK148 := n1_; have GW148 := n2_; have GE148 := n3_; clear n0_ n1_ n2_ n3_; clear hb hbox hg) | ((with_reducible refine gate_dst (N := 2) rfl ?_); refine box_event ?hg (N := 2) ?hd (cs := #[.int .i64 0, .int .i64 0]) (t := 30) ?hr ?_; (case hd => rfl); (case hg => rfl); (case hr => (go_simp; done)); intro gb149 hg w3 hbox hb; have n0_ := Aside0.mk (blk_below (g := gb148) (o := .cells #[.int .i64 a0_0, .int .i64 a0_1] 24 (0, 0)) (by exact BK148.out) hb); have n1_ := Aside0.mk (below_step HB.out hb); have n2_ := Aside0.mk (hbox); have n3_ := Aside0.mk ((by rw [hg]; exact (below_size HB.out) : w.heap.size ≤ gb149)); have n4_ := Aside0.mk ((by rw [hg]; exact (below_size HB.out) : w.heap.size ≤ gb149)); have n5_ := Aside0.mk ((by rw [hg]; exact Nat.ne_of_lt (blk_lt (g := gb148) (o := .cells #[.int .i64 a0_0, .int .i64 a0_1] 24 (0, 0)) (by exact BK148.out)) : gb148 ≠ gb149)); have n6_ := Aside0.mk ((by rw [hg]; exact Nat.ne_of_gt (blk_lt (g := gb148) (o := .cells #[.int .i64 a0_0, .int .i64 a0_1] 24 (0, 0)) (by exact BK148.out)) : gb149 ≠ gb148)); clear BK148; clear HB; have BK148 := n0_; have HB := n1_; have BK149 := n2_; have GW149 := n3_; have GE149 := n4_; have NB148_149 := n5_; have NB149_148 := n6_; clear n0_ n1_ n2_ n3_ n4_ n5_ n6_; clear hb hbox hg) | ((with_reducible refine gate_dst (N := 3) rfl ?_); refine box_event ?hg (N := 3) ?hd (cs := #[.int .i64 0, .int .i64 0]) (t := 30) ?hr ?_; (case hd => rfl); (case hg => rfl); (case hr => (go_simp; done)); intro gb150 hg w4 hbox hb; have n0_ := Aside0.mk (blk_below (g := gb148) (o := .cells #[.int .i64 a0_0, .int .i64 a0_1] 24 (0, 0)) (by exact BK148.out) hb); have n1_ := Aside0.mk (blk_below (g := gb149) (o := .cells #[.int .i64 0, .int .i64 0] 30 (0, 0)) (by exact BK149.out) hb); have n2_ := Aside0.mk (below_step HB.out hb); have n3_ := Aside0.mk (hbox); have n4_ := Aside0.mk ((by rw [hg]; exact (below_size HB.out) : w.heap.size ≤ gb150)); have n5_ := Aside0.mk ((by rw [hg]; exact (below_size HB.out) : w.heap.size ≤ gb150)); have n6_ := Aside0.mk ((by rw [hg]; exact Nat.ne_of_lt (blk_lt (g := gb148) (o := .cells #[.int .i64 a0_0, .int .i64 a0_1] 24 (0, 0)) (by exact BK148.out)) : gb148 ≠ gb150)); have n7_ := Aside0.mk ((by rw [hg]; exact Nat.ne_of_gt (blk_lt (g := gb148) (o := .cells #[.int .i64 a0_0, .int .i64 a0_1] 24 (0, 0)) (by exact BK148.out)) : gb150 ≠ gb148)); have n8_ := Aside0.mk ((by rw [hg]; exact Nat.ne_of_lt (blk_lt (g := gb149) (o := .cells #[.int .i64 0, .int .i64 0] 30 (0, 0)) (by exact BK149.out)) : gb149 ≠ gb150)); have n9_ := Aside0.mk ((by rw [hg]; exact Nat.ne_of_gt (blk_lt (g := gb149) (o := .cells #[.int .i64 0, .int .i64 0] 30 (0, 0)) (by exact BK149.out)) : gb150 ≠ gb149)); clear BK148; clear BK149; clear HB; have BK148 := n0_; have BK149 := n1_; have HB := n2_; have BK150 := n3_; have GW150 := n4_; have GE150 := n5_; have NB148_150 := n6_; have NB150_148 := n7_; have NB149_150 := n8_; have NB150_149 := n9_; clear n0_ n1_ n2_ n3_ n4_ n5_ n6_ n7_ n8_ n9_; clear hb hbox hg; have hnb5 := NB148_149.out; have hnc5 := NB149_148.out; have hnb6 := NB148_150.out; have hnc6 := NB150_148.out; have hcz7_0 : w4.cell? ⟨gb148, 0, none⟩ = some (.int .i64 a0_0) := (blk_cell BK148.out 0).trans rfl; have hcz7_1 : w4.cell? ⟨gb148, 1, none⟩ = some (.int .i64 a0_1) := (blk_cell BK148.out 1).trans rfl; have hfz7_0 := blk_frozen BK148.out 0; have hfz7_1 := blk_frozen BK148.out 1; have hnb8 := NB150_149.out; have hnc8 := NB149_150.out; have hcz9_0 : w4.cell? ⟨gb150, 0, none⟩ = some (.int .i64 0) := (blk_cell BK150.out 0).trans rfl; have hcz9_1 : w4.cell? ⟨gb150, 1, none⟩ = some (.int .i64 0) := (blk_cell BK150.out 1).trans rfl; have hfz9_0 := blk_frozen BK150.out 0; have hfz9_1 := blk_frozen BK150.out 1; have hcz10_0 : w4.cell? ⟨gb149, 0, none⟩ = some (.int .i64 0) := (blk_cell BK149.out 0).trans rfl; have hcz10_1 : w4.cell? ⟨gb149, 1, none⟩ = some (.int .i64 0) := (blk_cell BK149.out 1).trans rfl; have hfz10_0 := blk_frozen BK149.out 0; have hfz10_1 := blk_frozen BK149.out 1))
 refine bodyPost_ret (results_cell_row rfl _ _ gb149 30 #[.int .i64 a0_0, .int .i64 a0_1] (0, 0) _ rfl (by refine blk_put (cs := #[.int .i64 a0_0, .int .i64 0]) ?_ 1 _ rfl; refine blk_put (cs := #[.int .i64 0, .int .i64 0]) ?_ 0 _ rfl; refine blk_far ?_ NB149_150.out _; refine blk_far ?_ NB149_150.out _; exact BK149.out) Tp.underlying30 rfl (by kernel_rfl)) rfl ?_
 exact ⟨by (rfl), by repeat (((with_reducible first | exact HB.out | refine below_set ?_ GE149.out | refine below_set ?_ GE150.out)))⟩
def laws_toRangeS.l0 : Nat → List (S24) → List (S30) → Int → Option ((List (S30)))
 | 0, _, _, _ => none
 | k + 1, x0, x3, x4 => if x4 < (x0.length : Int) then (if 0 ≤ x4 then ((laws_toRange.f ((rd_T24 x0 x4).f0) ((rd_T24 x0 x4).f1)).bind fun bt155 => (if x4 < (x3.length : Int) then (laws_toRangeS.l0 k x0 (x3.set (x4 : Int).toNat (⟨bt155.1, bt155.2⟩ : S30)) (wrap64 (x4 + 1))) else (none))) else (none)) else (some x3)
def laws_toRangeS.f (k : Nat) (l0 : List (S24)) : Option ((List (S30))) := if 0 ≤ (l0.length : Int) then (if ((l0.length : Int) : Int).toNat ≤ 17592186044416 then (laws_toRangeS.l0 k l0 (List.replicate ((l0.length : Int) : Int).toNat z30) 0) else (none)) else (none)
set_option maxHeartbeats 8000000 in
set_option maxRecDepth 100000 in
theorem laws_toRangeS.calls (k : Nat) (A0 : Option Addr) (c0 : Nat) (l0 : List (S24)) (r : List (S30)) (w : World) (hr0 : Kd.C k24 w A0 l0.length l0) (hc0 : l0.length ≤ c0) (h : laws_toRangeS.f k l0 = some r) :
   Calls Tp.prog 16 #[.slice A0 l0.length c0] w fun e w' => ∃ v0_ : Value, e = .returned (v0_) ∧ Kd.R k30 30 w' w.heap.size (fun _ => True) v0_ r ∧ Below w.heap.size w w' := by
 have hu24 := Tp.underlying24
 have hu30 := Tp.underlying30
 have HR0 := Aside0.mk hr0
 have HC0 := Aside0.mk hc0
 clear hr0 hc0
 have HB := Aside0.mk (Below.refl w.heap.size w)
 have H : (if 0 ≤ (l0.length : Int) then (if ((l0.length : Int) : Int).toNat ≤ 17592186044416 then (laws_toRangeS.l0 k l0 (List.replicate ((l0.length : Int) : Int).toNat z30) 0) else (none)) else (none)) = some r := h
 clear h
 by_cases c2 : 0 ≤ (l0.length : Int)
 · rw [if_pos c2] at H
   have c2b0 := eq_true c2
   have c2b1 : decide (0 ≤ (l0.length : Int)) = true := decide_eq_true c2
   clear c2
   by_cases c3 : ((l0.length : Int) : Int).toNat ≤ 17592186044416
   · rw [if_pos c3] at H
     have c3b0 := eq_true c3
     have c3b1 : decide (((l0.length : Int) : Int).toNat ≤ 17592186044416) = true := decide_eq_true c3
     clear c3
     obtain ⟨y151, hy151⟩ : ∃ y_ : List (S30), y_ = (List.replicate ((l0.length : Int) : Int).toNat z30) := ⟨_, rfl⟩
     replace H : (laws_toRangeS.l0 k l0 y151 0) = some r := by ((rw [hy151]; with_reducible exact H))
     have Ny151 := Aside0.mk hy151
     clear hy151
     have H' := Aside0.mk H
     clear H
     go_enter Tp.func16, Try.ntmps16
     go_wp2_with ((((with_reducible refine gate_dst (N := 7) rfl ?_); refine Kd.R_make k30 _ 30 rfl (N := 7) rfl 28 _ _ rfl (l0.length : Int) rfl rfl Tp.underlying28 (.agg #[(.int .i64 0), (.int .i64 0)]) 16 info30 rfl (by decide) (by omega) z30 (ok := fun _ => True) (okp := fun _ => True) (k30_mkM _ _ _ z30 ) (fun _ hk => hk) trivial (of_decide_eq_true (by with_reducible assumption)) (Nat.le_trans (Nat.mul_le_mul_right _ (of_decide_eq_true (by with_reducible assumption) : (l0.length : Int).toNat ≤ 17592186044416)) (by omega)) (Below.refl _ _) (Nat.le_refl _) ?_; intro v152 w4 ho5 hb hg_ hnew_; clear hg_ hnew_; ((rw [← Ny151.out] at ho5)); have n0_ := Aside0.mk (Kd.R_lower ho5 (below_size HB.out)); have n1_ := Aside0.mk (below_step HB.out hb); clear HB; have HO153 := n0_; have HB := n1_; clear n0_ n1_; clear hb ho5)))
     go_loopg [4] k (fun kq v4 w' => ∃ (x3_1 : List (S30)) (x4_1 : Int), v4 = .int .i64 x4_1 ∧ Aside0 (laws_toRangeS.l0 kq l0 x3_1 x4_1 = some r) ∧ Aside0 (kq ≤ k) ∧ Aside0 (Kd.R k30 30 w' w.heap.size (fun _ => True) v152 x3_1) ∧ Aside0 (Below w.heap.size w w'))
     case atStart => exact ⟨(y151), (0), (by (rfl)), H', ⟨Nat.le_refl _⟩, ⟨by exact HO153.out⟩, ⟨HB.out⟩⟩
     case round =>
       clear H'
       try clear c1
       try clear c2
       try clear c2b0
       try clear c2b1
       try clear p2
       try clear c3
       try clear c3b0
       try clear c3b1
       obtain ⟨x3_1, x4_1, rfl, HA, HK1, HO_3, HB⟩ := hrel
       cases gk with
       | zero => exact absurd HA.out (by simp [laws_toRangeS.l0])
       | succ k1 =>
         have H := HA.out
         clear HA
         simp only [laws_toRangeS.l0] at H
         by_cases c6 : x4_1 < (l0.length : Int)
         · rw [if_pos c6] at H
           have c6b0 : decide (x4_1 < (l0.length : Int)) = true := decide_eq_true c6
           clear c6
           by_cases c7 : 0 ≤ x4_1
           · rw [if_pos c7] at H
             have c7b0 : decide (0 ≤ x4_1) = true := decide_eq_true c7
             clear c7
             replace H := Option.bind_eq_some_iff.mp H
             obtain ⟨⟨t155, t156⟩, A80, H⟩ := H
             replace H : (if x4_1 < (x3_1.length : Int) then (laws_toRangeS.l0 k1 l0 (x3_1.set (x4_1 : Int).toNat (⟨t155, t156⟩ : S30)) (wrap64 (x4_1 + 1))) else (none)) = some r := H
             have A8 := Aside0.mk A80
             clear A80
             by_cases c9 : x4_1 < (x3_1.length : Int)
             · rw [if_pos c9] at H
               have c9b0 : decide (x4_1 < (x3_1.length : Int)) = true := decide_eq_true c9
               clear c9
               obtain ⟨y157, hy157⟩ : ∃ y_ : List (S30), y_ = (x3_1.set (x4_1 : Int).toNat (⟨t155, t156⟩ : S30)) := ⟨_, rfl⟩
               replace H : (laws_toRangeS.l0 k1 l0 y157 (wrap64 (x4_1 + 1))) = some r := by ((rw [hy157]; with_reducible exact H))
               have Ny157 := Aside0.mk hy157
               clear hy157
               have H' := Aside0.mk H
               clear H
               have p154 : 0 ≤ (x4_1 : Int) := of_decide_eq_true (by with_reducible assumption)
               have q154 : x4_1 < (l0.length : Int) := of_decide_eq_true (by with_reducible assumption)
               obtain ⟨ad154, e154, hx154_0, hx154_1⟩ := at_T24 HR0.out x4_1 p154 q154
               cases e154
               replace hx154_0 := (HB.out.cell (World.block_lt_of_cell? w _ hx154_0)).trans hx154_0
               replace hx154_1 := (HB.out.cell (World.block_lt_of_cell? w _ hx154_1)).trans hx154_1
               replace p154 := eq_true p154
               replace q154 := eq_true q154
               go_wp2_with (first | ((with_reducible refine gate_callee (f := 17) rfl ?_); refine goesL_ (some 20) rfl rfl Tp.func17 (by kernel_rfl) rfl #[.agg #[.int .i64 ((rd_T24 l0 x4_1).f0), .int .i64 ((rd_T24 l0 x4_1).f1)]] rfl (by (try simp only [List.map_toArray, List.map_cons, List.map_nil]); (rfl)) ?_; (with_reducible refine (laws_toRange.calls ((rd_T24 l0 x4_1).f0) ((rd_T24 l0 x4_1).f1) t155 t156 _ A8.out).mono ?_); rintro e w11 ⟨rfl, hb⟩; refine ⟨_, rfl, ?_⟩; have n0_ := Aside0.mk (Kd.R_below (by exact HO_3.out) hb); have n1_ := Aside0.mk (below_step HB.out hb); clear HO_3; clear HB; have HO_3 := n0_; have HB := n1_; clear n0_ n1_; (try clear hb); (try clear hb2); (try clear hk); (try clear hi); have p10 : 0 ≤ (x4_1 : Int) := of_decide_eq_true (by with_reducible assumption); have q10 : (x4_1 : Int) < ((x3_1.length : Int) : Int) := of_decide_eq_true (by with_reducible assumption); obtain ⟨go10, co10, eo10, gb10, gl10, cl10, HG10⟩ := Kd.R_form HO_3.out (by omega); ((cases eo10)); have GB10 := Aside0.mk gb10; have GG10 := Aside0.mk HG10; clear gb10 gl10 HG10; obtain ⟨ce10, hcl10, hM10, hcc10, hfr10⟩ := Kd.R_elem HO_3.out z30 (x4_1 : Int) p10 q10; obtain rfl := k30_openM hM10; have hx10_0 : w11.cell? ⟨go10, (x4_1 : Int).toNat * 2, none⟩ = some (.int .i64 ((rd_T30 x3_1 x4_1).f0)) := hcc10 0 _ rfl; have hx10_1 : w11.cell? ⟨go10, (x4_1 : Int).toNat * 2 + 1, none⟩ = some (.int .i64 ((rd_T30 x3_1 x4_1).f1)) := hcc10 1 _ rfl; have hf10_0 : w11.frozen? ⟨go10, (x4_1 : Int).toNat * 2, none⟩ = false := hfr10 0; have hf10_1 : w11.frozen? ⟨go10, (x4_1 : Int).toNat * 2 + 1, none⟩ = false := hfr10 1; clear hcl10 hcc10 hfr10 hM10; replace p10 := eq_true p10; replace q10 := eq_true q10; have HX12 := Aside0.mk (show Kd.R k30 30 w11 w.heap.size (fun _ => True) (.slice (some ⟨go10, 0, none⟩) x3_1.length co10) x3_1 from (by exact HO_3.out)); obtain ⟨ce12, hcl12, hM12, hcc12, hfr12⟩ := Kd.R_elem HX12.out z30 (x4_1 : Int) (of_decide_eq_true (by with_reducible assumption)) (by have h_ : (x4_1 : Int) < ((x3_1.length : Int) : Int) := of_decide_eq_true (by with_reducible assumption); (exact h_)); obtain rfl := k30_openM hM12; have HP12 := Kd.R_seg HX12.out (x4_1 : Int) (of_decide_eq_true (by with_reducible assumption)) (by have h_ : (x4_1 : Int) < ((x3_1.length : Int) : Int) := of_decide_eq_true (by with_reducible assumption); (exact h_)) (seg := [.int .i64 t155, .int .i64 t156]) (j := 0) hcl12 hcc12 (show 2 ≤ 2 from by decide) (x' := (⟨t155, t156⟩ : S30)) (k30_mkM _ _ _ (⟨t155, t156⟩ : S30) ) (fun _ hk => hk); have hx12_0 := hcc12 0 _ rfl; (try simp only [show (k30).sz = 2 from rfl, Nat.add_zero] at hx12_0); have hf12_0 := hfr12 0; (try simp only [show (k30).sz = 2 from rfl, Nat.add_zero] at hf12_0); have hx12_1 := hcc12 1 _ rfl; (try simp only [show (k30).sz = 2 from rfl] at hx12_1); have hf12_1 := hfr12 1; (try simp only [show (k30).sz = 2 from rfl] at hf12_1); clear hcl12 hcc12 hfr12 hM12) | ((with_reducible refine gate_store (t := 30) (p := 21) rfl ?_); refine store_event (t := 30) (p := 21) (v := ?vo_w13) (w1 := ((w11.setCell ⟨go10, (x4_1 : Int).toNat * 2, none⟩ (.int .i64 t155)).setCell ⟨go10, (x4_1 : Int).toNat * 2 + 1, none⟩ (.int .i64 t156))) ?hg ?ho ?hn ?hr ?_; (case ho => rfl); (case hg => rfl); (case hn => rfl); (case hr => (go_simp; done)); intro w13 hw; have hg : w11.grownBy w13 (some go10) := (by rw [hw]; exact HP12.2); have hp_ : Kd.R k30 30 w13 w.heap.size (fun _ => True) (.slice (some ⟨go10, 0, none⟩) x3_1.length co10) y157 := (by rw [hw, Ny157.out]; exact HP12.1); clear HP12; have n0_ := Aside0.mk (hp_); have n1_ := Aside0.mk ((by rw [hw]; exact below_set (below_set (HB.out) GB10.out) GB10.out : Below w.heap.size w w13)); clear HO_3; clear HB; have HO_3 := n0_; have HB := n1_; clear n0_ n1_; clear hg hw hp_))
               go_roundg k1
               case measure => have := HK1.out; omega
               case rel => exact ⟨(y157), (wrap64 (x4_1 + 1)), (by (rfl)), H', ⟨by have := HK1.out; omega⟩, ⟨by exact HO_3.out⟩, ⟨HB.out⟩⟩
             · rw [if_neg c9] at H
               exact absurd H (by simp)
           · rw [if_neg c7] at H
             exact absurd H (by simp)
         · rw [if_neg c6] at H
           have c6b0 : decide (x4_1 < (l0.length : Int)) = false := decide_eq_false c6
           clear c6
           obtain rfl := Option.some.inj H
           go_wp2
           go_ret
           exact ⟨_, by (rfl), by exact HO_3.out, HB.out⟩
   · rw [if_neg c3] at H
     exact absurd H (by simp)
 · rw [if_neg c2] at H
   exact absurd H (by simp)
def impl_within.f (a0 : Int) (a1 : Int) (a2 : Int) : Option (Bool) := if a0 ≥ a1 then (some (decide (a0 ≤ a2))) else (some false)
set_option maxHeartbeats 8000000 in
set_option maxRecDepth 100000 in
theorem impl_within.calls (a0 : Int) (a1 : Int) (a2 : Int) (r : Bool) (w : World) (h : impl_within.f a0 a1 a2 = some r) :
   Calls Tp.prog 93 #[.int .i64 a0, .int .i64 a1, .int .i64 a2] w fun e w' => e = .returned (.bool r) ∧ Drawn0 w w' := by
 have H : (if a0 ≥ a1 then (some (decide (a0 ≤ a2))) else (some false)) = some r := h
 clear h
 by_cases c4 : a0 ≥ a1
 · rw [if_pos c4] at H
   have c4b0 : decide (a1 ≤ a0) = true := decide_eq_true c4
   clear c4
   obtain rfl := Option.some.inj H
   go_enter Tp.func93, Try.ntmps93
   go_wp2
   go_ret
   exact ⟨by (rfl), by repeat ((exact Drawn0.refl _))⟩
 · rw [if_neg c4] at H
   have c4b0 : decide (a1 ≤ a0) = false := decide_eq_false c4
   clear c4
   obtain rfl := Option.some.inj H
   go_enter Tp.func93, Try.ntmps93
   go_wp2
   go_ret
   exact ⟨by (rfl), by repeat ((exact Drawn0.refl _))⟩
end Go.Proofs.Ytcoppnbjpncdcaa.PAll
end
section
namespace Go.Proofs.Ytcoppnbjpncdcaa.PAll
open Go.RowKit Go.Proofs.YtcoppnbjpncdcaaW.PrintWords Go.Proofs.YtcoppnbjpncdcaaW.PrintLast Go.Proofs.YtcoppnbjpncdcaaW.PrintMore
set_option linter.unusedVariables false
set_option linter.unusedSimpArgs false
def impl_instantValid.f (a0 : Int) : Option (Bool) := (impl_within.f a0 (-86400000) 315537984000000).bind fun t158 => (some t158)
set_option maxHeartbeats 8000000 in
set_option maxRecDepth 100000 in
theorem impl_instantValid.calls (a0 : Int) (r : Bool) (w : World) (h : impl_instantValid.f a0 = some r) :
   Calls Tp.prog 67 #[.int .i64 a0] w fun e w' => e = .returned (.bool r) ∧ Drawn0 w w' := by
 have H : ((impl_within.f a0 (-86400000) 315537984000000).bind fun t158 => (some t158)) = some r := h
 clear h
 replace H := Option.bind_eq_some_iff.mp H
 obtain ⟨t158, A20, H⟩ := H
 replace H : (some t158) = some r := H
 have A2 := Aside0.mk A20
 clear A20
 obtain rfl := Option.some.inj H
 go_enter Tp.func67, Try.ntmps67
 go_wp2_with ((((with_reducible refine gate_callee (f := 93) rfl ?_); refine goesL_ (some 4) rfl rfl Tp.func93 (by kernel_rfl) rfl #[.int .i64 a0, .int .i64 (-86400000), .int .i64 315537984000000] rfl (by (try simp only [List.map_toArray, List.map_cons, List.map_nil]); (rfl)) ?_; (with_reducible refine (impl_within.calls a0 (-86400000) 315537984000000 t158 _ A2.out).mono ?_); rintro e w' ⟨rfl, ⟨nd, rfl⟩⟩; refine ⟨_, rfl, ?_⟩)))
 go_ret
 exact ⟨by (rfl), by repeat (first | exact Drawn0.refl _ | apply Drawn0.step)⟩
def impl_rangeValid.f (a0_0 : Int) (a0_1 : Int) : Option (Bool) := (impl_instantValid.f a0_0).bind fun t160 => (if t160 = true then ((impl_instantValid.f a0_1).bind fun t161 => (if t161 = true then (some (decide (a0_0 < a0_1))) else (some false))) else (some false))
set_option maxHeartbeats 8000000 in
set_option maxRecDepth 100000 in
theorem impl_rangeValid.calls (a0_0 : Int) (a0_1 : Int) (r : Bool) (w : World) (h : impl_rangeValid.f a0_0 a0_1 = some r) :
   Calls Tp.prog 51 #[.agg #[.int .i64 a0_0, .int .i64 a0_1]] w fun e w' => e = .returned (.bool r) ∧ Below w.heap.size w w' := by
 have hu30 := Tp.underlying30
 have HB := Aside0.mk (Below.refl w.heap.size w)
 have H : ((impl_instantValid.f a0_0).bind fun t160 => (if t160 = true then ((impl_instantValid.f a0_1).bind fun t161 => (if t161 = true then (some (decide (a0_0 < a0_1))) else (some false))) else (some false))) = some r := h
 clear h
 replace H := Option.bind_eq_some_iff.mp H
 obtain ⟨t160, A20, H⟩ := H
 replace H : (if t160 = true then ((impl_instantValid.f a0_1).bind fun t161 => (if t161 = true then (some (decide (a0_0 < a0_1))) else (some false))) else (some false)) = some r := H
 have A2 := Aside0.mk A20
 clear A20
 by_cases c3 : t160 = true
 · subst c3
   have H1 : ((impl_instantValid.f a0_1).bind fun t161 => (if t161 = true then (some (decide (a0_0 < a0_1))) else (some false))) = some r := by rw [if_pos rfl] at H; exact H
   clear H
   have H := H1
   clear H1
   replace H := Option.bind_eq_some_iff.mp H
   obtain ⟨t161, A40, H⟩ := H
   replace H : (if t161 = true then (some (decide (a0_0 < a0_1))) else (some false)) = some r := H
   have A4 := Aside0.mk A40
   clear A40
   by_cases c5 : t161 = true
   · subst c5
     have H1 : (some (decide (a0_0 < a0_1))) = some r := by rw [if_pos rfl] at H; exact H
     clear H
     have H := H1
     clear H1
     obtain rfl := Option.some.inj H
     go_enter Tp.func51, Try.ntmps51
     go_wp2_with (first | ((with_reducible refine gate_dst (N := 1) rfl ?_); refine box_event ?hg (N := 1) ?hd (cs := #[.int .i64 a0_0, .int .i64 a0_1]) (t := 30) ?hr ?_; (case hd => rfl); (case hg => rfl); (case hr => ((go_simp; done))); intro gb159 hg w6 hbox hb; have n0_ := Aside0.mk (below_step (by repeat (((with_reducible (exact HB.out))))) hb); have n1_ := Aside0.mk (hbox); have n2_ := Aside0.mk ((by rw [hg]; exact (below_size (by repeat (((with_reducible (exact HB.out)))))) : w.heap.size ≤ gb159)); have n3_ := Aside0.mk ((by rw [hg]; exact (below_size (by repeat (((with_reducible (exact HB.out)))))) : w.heap.size ≤ gb159)); clear HB; have HB := n0_; have BK159 := n1_; have GW159 := n2_; have GE159 := n3_; clear n0_ n1_ n2_ n3_; clear hb hbox hg; have hcz7_0 : w6.cell? ⟨gb159, 0, none⟩ = some (.int .i64 a0_0) := (blk_cell BK159.out 0).trans rfl; have hcz7_1 : w6.cell? ⟨gb159, 1, none⟩ = some (.int .i64 a0_1) := (blk_cell BK159.out 1).trans rfl; have hfz7_0 := blk_frozen BK159.out 0; have hfz7_1 := blk_frozen BK159.out 1) | ((with_reducible refine gate_callee (f := 67) rfl ?_); refine goesL_ (some 5) rfl rfl Tp.func67 (by kernel_rfl) rfl #[.int .i64 a0_0] rfl (by (try simp only [List.map_toArray, List.map_cons, List.map_nil]); (rfl)) ?_; (with_reducible refine (impl_instantValid.calls a0_0 true _ A2.out).mono ?_); rintro e w' ⟨rfl, ⟨nd, rfl⟩⟩; refine ⟨_, rfl, ?_⟩) | (go_at_call 67; (with_reducible refine (impl_instantValid.calls a0_1 true _ A4.out).mono ?_); rintro e w' ⟨rfl, ⟨nd, rfl⟩⟩))
     go_ret
     exact ⟨by (rfl), by repeat (((with_reducible first | exact HB.out | apply pw_below_drewN)))⟩
   · replace c5 := Bool.eq_false_iff.mpr c5
     subst c5
     have H1 : (some false) = some r := by rw [if_neg (show ¬ (false = true) by decide)] at H; exact H
     clear H
     have H := H1
     clear H1
     obtain rfl := Option.some.inj H
     go_enter Tp.func51, Try.ntmps51
     go_wp2_with (first | ((with_reducible refine gate_dst (N := 1) rfl ?_); refine box_event ?hg (N := 1) ?hd (cs := #[.int .i64 a0_0, .int .i64 a0_1]) (t := 30) ?hr ?_; (case hd => rfl); (case hg => rfl); (case hr => ((go_simp; done))); intro gb159 hg w8 hbox hb; have n0_ := Aside0.mk (below_step (by repeat (((with_reducible (exact HB.out))))) hb); have n1_ := Aside0.mk (hbox); have n2_ := Aside0.mk ((by rw [hg]; exact (below_size (by repeat (((with_reducible (exact HB.out)))))) : w.heap.size ≤ gb159)); have n3_ := Aside0.mk ((by rw [hg]; exact (below_size (by repeat (((with_reducible (exact HB.out)))))) : w.heap.size ≤ gb159)); clear HB; have HB := n0_; have BK159 := n1_; have GW159 := n2_; have GE159 := n3_; clear n0_ n1_ n2_ n3_; clear hb hbox hg; have hcz9_0 : w8.cell? ⟨gb159, 0, none⟩ = some (.int .i64 a0_0) := (blk_cell BK159.out 0).trans rfl; have hcz9_1 : w8.cell? ⟨gb159, 1, none⟩ = some (.int .i64 a0_1) := (blk_cell BK159.out 1).trans rfl; have hfz9_0 := blk_frozen BK159.out 0; have hfz9_1 := blk_frozen BK159.out 1) | ((with_reducible refine gate_callee (f := 67) rfl ?_); refine goesL_ (some 5) rfl rfl Tp.func67 (by kernel_rfl) rfl #[.int .i64 a0_0] rfl (by (try simp only [List.map_toArray, List.map_cons, List.map_nil]); (rfl)) ?_; (with_reducible refine (impl_instantValid.calls a0_0 true _ A2.out).mono ?_); rintro e w' ⟨rfl, ⟨nd, rfl⟩⟩; refine ⟨_, rfl, ?_⟩) | (go_at_call 67; (with_reducible refine (impl_instantValid.calls a0_1 false _ A4.out).mono ?_); rintro e w' ⟨rfl, ⟨nd, rfl⟩⟩))
     go_ret
     exact ⟨by (rfl), by repeat (((with_reducible first | exact HB.out | apply pw_below_drewN)))⟩
 · replace c3 := Bool.eq_false_iff.mpr c3
   subst c3
   have H1 : (some false) = some r := by rw [if_neg (show ¬ (false = true) by decide)] at H; exact H
   clear H
   have H := H1
   clear H1
   obtain rfl := Option.some.inj H
   go_enter Tp.func51, Try.ntmps51
   go_wp2_with (first | ((with_reducible refine gate_dst (N := 1) rfl ?_); refine box_event ?hg (N := 1) ?hd (cs := #[.int .i64 a0_0, .int .i64 a0_1]) (t := 30) ?hr ?_; (case hd => rfl); (case hg => rfl); (case hr => ((go_simp; done))); intro gb159 hg w10 hbox hb; have n0_ := Aside0.mk (below_step (by repeat (((with_reducible (exact HB.out))))) hb); have n1_ := Aside0.mk (hbox); have n2_ := Aside0.mk ((by rw [hg]; exact (below_size (by repeat (((with_reducible (exact HB.out)))))) : w.heap.size ≤ gb159)); have n3_ := Aside0.mk ((by rw [hg]; exact (below_size (by repeat (((with_reducible (exact HB.out)))))) : w.heap.size ≤ gb159)); clear HB; have HB := n0_; have BK159 := n1_; have GW159 := n2_; have GE159 := n3_; clear n0_ n1_ n2_ n3_; clear hb hbox hg; have hcz11_0 : w10.cell? ⟨gb159, 0, none⟩ = some (.int .i64 a0_0) := (blk_cell BK159.out 0).trans rfl; have hcz11_1 : w10.cell? ⟨gb159, 1, none⟩ = some (.int .i64 a0_1) := (blk_cell BK159.out 1).trans rfl; have hfz11_0 := blk_frozen BK159.out 0; have hfz11_1 := blk_frozen BK159.out 1) | ((with_reducible refine gate_callee (f := 67) rfl ?_); refine goesL_ (some 5) rfl rfl Tp.func67 (by kernel_rfl) rfl #[.int .i64 a0_0] rfl (by (try simp only [List.map_toArray, List.map_cons, List.map_nil]); (rfl)) ?_; (with_reducible refine (impl_instantValid.calls a0_0 false _ A2.out).mono ?_); rintro e w' ⟨rfl, ⟨nd, rfl⟩⟩; refine ⟨_, rfl, ?_⟩))
   go_ret
   exact ⟨by (rfl), by repeat (((with_reducible first | exact HB.out | apply pw_below_drewN)))⟩
end Go.Proofs.Ytcoppnbjpncdcaa.PAll
end
section
namespace Go.Proofs.Ytcoppnbjpncdcaa.PAll
open Go.RowKit Go.Proofs.YtcoppnbjpncdcaaW.PrintWords Go.Proofs.YtcoppnbjpncdcaaW.PrintLast Go.Proofs.YtcoppnbjpncdcaaW.PrintMore
set_option linter.unusedVariables false
set_option linter.unusedSimpArgs false
abbrev q6_b0 : Array Bool := #[false, false, false, false, false, false, false, false, false, false, false, false, false, false, false, false, false, false]
abbrev q6_b1 : Array Bool := #[true, false, false, false, false, false, false, false, false, false, false, false, false, false, false, false, false, false]
abbrev q6_b2 : Array Bool := #[true, true, false, false, false, false, false, false, false, false, false, false, false, false, false, false, false, false]
abbrev q6_b3 : Array Bool := #[true, true, true, false, false, false, false, false, false, false, false, false, false, false, false, false, false, false]
abbrev q6_b4 : Array Bool := #[true, true, true, true, false, false, false, false, false, false, false, false, false, false, false, false, false, false]
abbrev q6_b5 : Array Bool := #[true, true, true, true, true, false, false, false, false, false, false, false, false, false, false, false, false, false]
abbrev q6_b6 : Array Bool := #[true, true, true, true, true, true, false, false, false, false, false, false, false, false, false, false, false, false]
abbrev q6_b7 : Array Bool := #[true, true, true, true, true, true, true, false, false, false, false, false, false, false, false, false, false, false]
abbrev q6_b8 : Array Bool := #[true, true, true, true, true, true, true, true, false, false, false, false, false, false, false, false, false, false]
abbrev q6_b9 : Array Bool := #[true, true, true, true, true, true, true, true, false, true, false, false, false, false, false, false, false, false]
abbrev q6_b10 : Array Bool := #[true, true, true, true, true, true, true, true, false, true, true, false, false, false, false, false, false, false]
abbrev q6_b11 : Array Bool := #[true, true, true, true, true, true, true, true, false, true, true, true, false, false, false, false, false, false]
abbrev q6_b12 : Array Bool := #[true, true, true, true, true, true, true, true, false, true, true, true, true, false, false, false, false, false]
abbrev q6_b13 : Array Bool := #[true, true, true, true, true, true, true, true, false, true, true, true, true, true, false, false, false, false]
abbrev q6_b14 : Array Bool := #[true, true, true, true, true, true, true, true, true, true, true, true, true, true, false, false, false, false]
abbrev q6_b15 : Array Bool := #[true, true, true, true, true, true, true, true, true, true, true, true, true, true, true, false, false, false]
abbrev q6_b16 : Array Bool := #[true, true, true, true, true, true, true, true, true, true, true, true, true, true, true, true, false, false]
abbrev q6_b17 : Array Bool := #[true, true, true, true, true, true, true, true, true, true, true, true, true, true, true, true, true, false]
abbrev q6_b18 : Array Bool := #[true, true, true, true, true, true, true, true, true, true, true, true, true, true, true, true, true, true]
abbrev q6_b19 : Array Bool := #[true, true, true, true, true, true, true, true, true, false, false, false, false, false, false, false, false, false]
abbrev q6_b20 : Array Bool := #[true, true, true, true, true, true, true, true, true, true, false, false, false, false, false, false, false, false]
abbrev q6_b21 : Array Bool := #[true, true, true, true, true, true, true, true, true, true, true, false, false, false, false, false, false, false]
abbrev q6_b22 : Array Bool := #[true, true, true, true, true, true, true, true, true, true, true, true, false, false, false, false, false, false]
abbrev q6_b23 : Array Bool := #[true, true, true, true, true, true, true, true, true, true, true, true, true, false, false, false, false, false]
def impl_RangesValid.l0 : Nat → List (S30) → List (S30) → Int → Int → Option (Bool)
 | 0, _, _, _, _ => none
 | k + 1, x0, x8, x9, x10 => if x10 < x9 then (if 0 ≤ x10 then (if x10 < (x8.length : Int) then ((impl_rangeValid.f ((rd_T30 x8 x10).f0) ((rd_T30 x8 x10).f1)).bind fun t164 => (if t164 = true then (if x10 > 0 then (if 0 ≤ (wrap64 (x10 - 1)) then (if (wrap64 (x10 - 1)) < (x0.length : Int) then (if ((rd_T30 x8 x10).f0) ≤ ((rd_T30 x0 (wrap64 (x10 - 1))).f1) then (some false) else (impl_RangesValid.l0 k x0 x8 x9 (wrap64 (x10 + 1)))) else (none)) else (none)) else (impl_RangesValid.l0 k x0 x8 x9 (wrap64 (x10 + 1)))) else (some false))) else (none)) else (none)) else (some true)
def impl_RangesValid.f (k : Nat) (l0 : List (S30)) : Option (Bool) := if (l0.length : Int) > 8 then (some false) else (impl_RangesValid.l0 k l0 l0 (l0.length : Int) 0)
def impl_RangesValid.T6 : Bool × List (List Nat × List Nat) := (true, [([], []), ([0], [0]), ([1], [1]), ([2, 1], [2]), ([3], [3]), ([4, 3], [3, 4]), ([5, 3, 3], [3, 5]), ([6], [6]), ([7, 6], [6, 7]), ([6], [6]), ([6], [6]), ([10, 6], [6, 10]), ([9, 11, 6], [6, 9, 11]), ([12, 6], [6, 12]), ([13, 6], [6, 13]), ([8, 14, 6], [6, 8, 14]), ([6, 15, 3], [3, 6, 15]), ([3, 16], [3, 16])])
def impl_RangesValid.B6 : List Nat := [0, 1, 3, 7, 15, 31, 63, 127, 255, 127, 127, 1151, 3711, 7807, 15999, 32767, 65535, 131071]
theorem impl_RangesValid.tab6 : rtab .any (opsOf Try.f45 6) = impl_RangesValid.T6 := by kernel_rfl
theorem impl_RangesValid.bits6 : waitsOk impl_RangesValid.T6.2 impl_RangesValid.B6 = true := by kernel_rfl
set_option maxHeartbeats 8000000 in
set_option maxRecDepth 100000 in
theorem impl_RangesValid.calls (k : Nat) (A0 : Option Addr) (c0 : Nat) (l0 : List (S30)) (r : Bool) (w : World) (hr0 : Kd.C k30 w A0 l0.length l0) (hc0 : l0.length ≤ c0) (h : impl_RangesValid.f k l0 = some r) :
   Calls Tp.prog 45 #[.slice A0 l0.length c0] w fun e w' => e = .returned (.bool r) ∧ Below w.heap.size w w' := by
 have hu30 := Tp.underlying30
 have HR0 := Aside0.mk hr0
 have HC0 := Aside0.mk hc0
 clear hr0 hc0
 have HB := Aside0.mk (Below.refl w.heap.size w)
 have H : (if (l0.length : Int) > 8 then (some false) else (impl_RangesValid.l0 k l0 l0 (l0.length : Int) 0)) = some r := h
 clear h
 by_cases c2 : (l0.length : Int) > 8
 · rw [if_pos c2] at H
   have c2b0 : decide (8 < (l0.length : Int)) = true := decide_eq_true c2
   have c2b1 : decide (8 < l0.length) = true := decide_eq_true (by omega)
   clear c2
   obtain rfl := Option.some.inj H
   go_enter Tp.func45, Try.ntmps45
   go_wp2
   go_ret
   exact ⟨rfl, HB.out⟩
 · rw [if_neg c2] at H
   have c2b0 : decide (8 < (l0.length : Int)) = false := decide_eq_false c2
   have c2b1 : decide (8 < l0.length) = false := decide_eq_false (by omega)
   clear c2
   have H' := Aside0.mk H
   clear H
   go_enter Tp.func45, Try.ntmps45
   go_wp2
   go_loopg [10] k (fun kq v10 w' => ∃ (x10_1 : Int), v10 = .int .i64 x10_1 ∧ Aside0 (impl_RangesValid.l0 kq l0 l0 (l0.length : Int) x10_1 = some r) ∧ Aside0 (kq ≤ k) ∧ Aside0 (Below w.heap.size w w'))
   case atStart => exact ⟨(0), (by (rfl)), H', ⟨Nat.le_refl _⟩, ⟨HB.out⟩⟩
   case round =>
     clear H'
     try clear c2
     try clear c2b0
     try clear c2b1
     try clear p2
     obtain ⟨x10_1, rfl, HA, HK1, HB⟩ := hrel
     cases gk with
     | zero => exact absurd HA.out (by simp [impl_RangesValid.l0])
     | succ k1 =>
       have H := HA.out
       clear HA
       simp only [impl_RangesValid.l0] at H
       by_cases c3 : x10_1 < (l0.length : Int)
       · rw [if_pos c3] at H
         have c3b0 : decide (x10_1 < (l0.length : Int)) = true := decide_eq_true c3
         clear c3
         by_cases c4 : 0 ≤ x10_1
         · rw [if_pos c4] at H
           have c4b0 : decide (0 ≤ x10_1) = true := decide_eq_true c4
           clear c4
           by_cases c5 : x10_1 < (l0.length : Int)
           · rw [if_pos c5] at H
             have c5b0 : decide (x10_1 < (l0.length : Int)) = true := decide_eq_true c5
             clear c5
             replace H := Option.bind_eq_some_iff.mp H
             obtain ⟨t164, A60, H⟩ := H
             replace H : (if t164 = true then (if x10_1 > 0 then (if 0 ≤ (wrap64 (x10_1 - 1)) then (if (wrap64 (x10_1 - 1)) < (l0.length : Int) then (if ((rd_T30 l0 x10_1).f0) ≤ ((rd_T30 l0 (wrap64 (x10_1 - 1))).f1) then (some false) else (impl_RangesValid.l0 k1 l0 l0 (l0.length : Int) (wrap64 (x10_1 + 1)))) else (none)) else (none)) else (impl_RangesValid.l0 k1 l0 l0 (l0.length : Int) (wrap64 (x10_1 + 1)))) else (some false)) = some r := H
             have A6 := Aside0.mk A60
             clear A60
             by_cases c7 : t164 = true
             · subst c7
               have H1 : (if x10_1 > 0 then (if 0 ≤ (wrap64 (x10_1 - 1)) then (if (wrap64 (x10_1 - 1)) < (l0.length : Int) then (if ((rd_T30 l0 x10_1).f0) ≤ ((rd_T30 l0 (wrap64 (x10_1 - 1))).f1) then (some false) else (impl_RangesValid.l0 k1 l0 l0 (l0.length : Int) (wrap64 (x10_1 + 1)))) else (none)) else (none)) else (impl_RangesValid.l0 k1 l0 l0 (l0.length : Int) (wrap64 (x10_1 + 1)))) = some r := by rw [if_pos rfl] at H; exact H
               clear H
               have H := H1
               clear H1
               by_cases c8 : x10_1 > 0
               · rw [if_pos c8] at H
                 have c8b0 : decide (0 < x10_1) = true := decide_eq_true c8
                 clear c8
                 obtain ⟨ji9, hji9⟩ : ∃ j_ : Int, (wrap64 (x10_1 - 1)) = j_ := ⟨_, rfl⟩
                 replace H : (if 0 ≤ (ji9) then (if (ji9) < (l0.length : Int) then (if ((rd_T30 l0 x10_1).f0) ≤ ((rd_T30 l0 (ji9)).f1) then (some false) else (impl_RangesValid.l0 k1 l0 l0 (l0.length : Int) (wrap64 (x10_1 + 1)))) else (none)) else (none)) = some r := by ((rw [hji9] at H; exact H))
                 (try rw [hji9] at A6)
                 have hji9w : (IntKind.i64.wrap (x10_1 - 1)) = ji9 := (i64_w _).trans hji9
                 by_cases c10 : 0 ≤ (ji9)
                 · rw [if_pos c10] at H
                   have c10b0 : decide (0 ≤ (ji9)) = true := decide_eq_true c10
                   clear c10
                   by_cases c11 : (ji9) < (l0.length : Int)
                   · rw [if_pos c11] at H
                     have c11b0 : decide ((ji9) < (l0.length : Int)) = true := decide_eq_true c11
                     clear c11
                     by_cases c12 : ((rd_T30 l0 x10_1).f0) ≤ ((rd_T30 l0 (ji9)).f1)
                     · rw [if_pos c12] at H
                       have c12b0 : decide (((rd_T30 l0 x10_1).f0) ≤ ((rd_T30 l0 (ji9)).f1)) = true := decide_eq_true c12
                       clear c12
                       obtain rfl := Option.some.inj H
                       have p162 : 0 ≤ (x10_1 : Int) := of_decide_eq_true (by with_reducible assumption)
                       have q162 : x10_1 < (l0.length : Int) := of_decide_eq_true (by with_reducible assumption)
                       obtain ⟨ad162, e162, hx162_0, hx162_1⟩ := at_T30 HR0.out x10_1 p162 q162
                       cases e162
                       replace hx162_0 := (HB.out.cell (World.block_lt_of_cell? w _ hx162_0)).trans hx162_0
                       replace hx162_1 := (HB.out.cell (World.block_lt_of_cell? w _ hx162_1)).trans hx162_1
                       replace p162 := eq_true p162
                       replace q162 := eq_true q162
                       try go_wp2_with ((((with_reducible refine gate_dst (N := 4) rfl ?_); refine box_event ?hg (N := 4) ?hd (cs := #[.int .i64 0, .int .i64 0]) (t := 30) ?hr ?_; (case hd => rfl); (case hg => rfl); (case hr => (go_simp; done)); intro gb163 hg w13 hbox hb; have n0_ := Aside0.mk (below_step HB.out hb); have n1_ := Aside0.mk (hbox); have n2_ := Aside0.mk ((by rw [hg]; exact (below_size HB.out) : w.heap.size ≤ gb163)); have n3_ := Aside0.mk ((by rw [hg]; exact (below_size HB.out) : w.heap.size ≤ gb163)); clear HB; have HB := n0_; have BK163 := n1_; have GW163 := n2_; have GE163 := n3_; clear n0_ n1_ n2_ n3_; clear hb hbox hg; have hcz14_0 : w13.cell? ⟨gb163, 0, none⟩ = some (.int .i64 0) := (blk_cell BK163.out 0).trans rfl; have hcz14_1 : w13.cell? ⟨gb163, 1, none⟩ = some (.int .i64 0) := (blk_cell BK163.out 1).trans rfl; have hfz14_0 := blk_frozen BK163.out 0; have hfz14_1 := blk_frozen BK163.out 1)))
                       have n0_ : Aside0 (((w13.setCell ⟨gb163, 0, none⟩ (.int .i64 ((rd_T30 l0 x10_1).f0))).setCell ⟨gb163, 1, none⟩ (.int .i64 ((rd_T30 l0 x10_1).f1))).heap[gb163]? = some (.cells #[.int .i64 ((rd_T30 l0 x10_1).f0), .int .i64 ((rd_T30 l0 x10_1).f1)] 30 (0, 0))) := ⟨by refine blk_put (cs := #[.int .i64 ((rd_T30 l0 x10_1).f0), .int .i64 0]) ?_ 1 _ rfl; refine blk_put (cs := #[.int .i64 0, .int .i64 0]) ?_ 0 _ rfl; exact BK163.out⟩
                       have n1_ : Aside0 (Below w.heap.size w ((w13.setCell ⟨gb163, 0, none⟩ (.int .i64 ((rd_T30 l0 x10_1).f0))).setCell ⟨gb163, 1, none⟩ (.int .i64 ((rd_T30 l0 x10_1).f1)))) := ⟨by repeat (((with_reducible first | exact HB.out | refine below_set ?_ GE163.out)))⟩
                       (try clear BK163)
                       (try clear HB)
                       generalize ((w13.setCell ⟨gb163, 0, none⟩ (.int .i64 ((rd_T30 l0 x10_1).f0))).setCell ⟨gb163, 1, none⟩ (.int .i64 ((rd_T30 l0 x10_1).f1))) = w15 at n0_ n1_ ⊢
                       have BK163 := n0_
                       have HB := n1_
                       clear n0_ n1_
                       have n0_ := Aside0.mk (blk_drew BK163.out)
                       have n1_ := Aside0.mk (below_drew1 HB.out)
                       clear BK163
                       clear HB
                       have BK163 := n0_
                       have HB := n1_
                       clear n0_ n1_
                       have p165 : 0 ≤ ((ji9) : Int) := of_decide_eq_true (by with_reducible assumption)
                       have q165 : (ji9) < (l0.length : Int) := of_decide_eq_true (by with_reducible assumption)
                       obtain ⟨ad165, e165, hx165_0, hx165_1⟩ := at_T30 HR0.out (ji9) p165 q165
                       have hw165_1 := hx165_1
                       have hw165_0 := hx165_0
                       obtain rfl : ad162 = ad165 := (by injection e165)
                       replace hx165_0 := (HB.out.cell (World.block_lt_of_cell? w _ hx165_0)).trans hx165_0
                       replace hx165_1 := (HB.out.cell (World.block_lt_of_cell? w _ hx165_1)).trans hx165_1
                       replace p165 := eq_true p165
                       replace q165 := eq_true q165
                       refine start_ (n := 18) (S := fun w' => w'.cell? ⟨gb163, 0, none⟩ = some (.int .i64 ((rd_T30 l0 x10_1).f0)) ∧ w'.cell? ⟨gb163, 1, none⟩ = some (.int .i64 ((rd_T30 l0 x10_1).f1)) ∧ w'.cell? (ad162.add (((ji9)).toNat * 2)) = some (.int .i64 ((rd_T30 l0 (ji9)).f0)) ∧ w'.cell? ⟨(ad162.add (((ji9)).toNat * 2)).block, (ad162.add (((ji9)).toNat * 2)).off + 1, none⟩ = some (.int .i64 ((rd_T30 l0 (ji9)).f1))) (ds := []) q6_b0 (by kernel_rfl) rfl rfl ⟨(blk_cell BK163.out 0).trans rfl, (blk_cell BK163.out 1).trans rfl, ((HB.out.cell (World.block_lt_of_cell? w _ hw165_0)).trans hw165_0), ((HB.out.cell (World.block_lt_of_cell? w _ hw165_1)).trans hw165_1)⟩ (fun hHeld => ?_); refine with_tabW impl_RangesValid.tab6 impl_RangesValid.bits6 (fun HT_ HW_ => ?_)
                       generalize w15.drew = w16 at BK163 HB hx165_0 hx165_1 hHeld ⊢
                       refine take_ (i := 0) (N := some 15) (v := ?_) (a' := ?_) q6_b1 rfl rfl (take_ofW HT_.out HW_.out (by kernel_rfl)) (fun _ _ _ h => h) (Or.inl ⟨by rfl, ?_⟩) hHeld ?_ ?_
                       rotate_left
                       · rintro w' ⟨s0, s1, s2, s3⟩
                         go_simp
                         with_reducible rfl
                       rotate_left
                       · simp only [Act.put, zs]
                         rfl
                       refine one_ (i := 1) (N := some 16) q6_b2 rfl rfl (one_of HT_.out (by kernel_rfl)) (by decide) (fun K hK => ?_)
                       refine goes_ Tp.func51 (by kernel_rfl) rfl #[.agg #[.int .i64 ((rd_T30 l0 x10_1).f0), .int .i64 ((rd_T30 l0 x10_1).f1)]] (by rfl) rfl rfl (by (try simp only [List.map_toArray, List.map_cons, List.map_nil]); (rfl)) ?_
                       with_reducible refine (impl_rangeValid.calls ((rd_T30 l0 x10_1).f0) ((rd_T30 l0 x10_1).f1) true _ A6.out).mono ?_
                       rintro e w17 ⟨rfl, hb⟩
                       refine ⟨_, rfl, ?_⟩
                       have n0_ := Aside0.mk (blk_below (g := gb163) (o := .cells #[.int .i64 ((rd_T30 l0 x10_1).f0), .int .i64 ((rd_T30 l0 x10_1).f1)] 30 (0, 0)) (by exact BK163.out) hb)
                       have n1_ := Aside0.mk (below_step HB.out hb)
                       clear BK163
                       clear HB
                       have BK163 := n0_
                       have HB := n1_
                       clear n0_ n1_
                       (try clear hb)
                       (try clear hb2)
                       (try clear hk)
                       (try clear hi)
                       refine hK.out _ _ ⟨(blk_cell BK163.out 0).trans rfl, (blk_cell BK163.out 1).trans rfl, ((HB.out.cell (World.block_lt_of_cell? w _ hw165_0)).trans hw165_0), ((HB.out.cell (World.block_lt_of_cell? w _ hw165_1)).trans hw165_1)⟩ (fun hHeld => ?_)
                       clear hK K
                       refine norm_ (a' := ?_) ?_ ?_
                       rotate_left
                       · show Act.put _ (some 16) _ = _
                         simp only [Act.put, zs]
                         rfl
                       refine pure_ (i := 2) (N := some 17) (v := ?_) (a' := ?_) q6_b3 rfl rfl (any_of HT_.out (by kernel_rfl)) (fun _ _ _ h => h) (Or.inl ⟨by rfl, ?_⟩) ?_ ?_
                       rotate_left
                       · intro w'
                         go_simp
                         with_reducible rfl
                       rotate_left
                       · simp only [Act.put, zs]
                         rfl
                       refine pure_ (i := 3) (N := some 18) (v := ?_) (a' := ?_) q6_b4 rfl rfl (any_of HT_.out (by kernel_rfl)) (fun _ _ _ h => h) (Or.inl ⟨by rfl, ?_⟩) ?_ ?_
                       rotate_left
                       · intro w'
                         go_simp
                         with_reducible rfl
                       rotate_left
                       · simp only [Act.put, zs]
                         rfl
                       refine pure_ (i := 4) (N := some 19) (v := ?_) (a' := ?_) q6_b5 rfl rfl (any_of HT_.out (by kernel_rfl)) (fun _ _ _ h => h) (Or.inl ⟨by rfl, ?_⟩) ?_ ?_
                       rotate_left
                       · intro w'
                         go_simp
                         with_reducible rfl
                       rotate_left
                       · simp only [Act.put, zs]
                         rfl
                       refine pure_ (i := 5) (N := some 20) (v := ?_) (a' := ?_) q6_b6 rfl rfl (any_of HT_.out (by kernel_rfl)) (fun _ _ _ h => h) (Or.inl ⟨by rfl, ?_⟩) ?_ ?_
                       rotate_left
                       · intro w'
                         go_simp
                         with_reducible rfl
                       rotate_left
                       · simp only [Act.put, zs]
                         rfl
                       refine pure_ (i := 6) (N := some 21) (v := ?_) (a' := ?_) q6_b7 rfl rfl (any_of HT_.out (by kernel_rfl)) (fun _ _ _ h => h) (Or.inl ⟨by rfl, ?_⟩) ?_ ?_
                       rotate_left
                       · intro w'
                         go_simp
                         with_reducible rfl
                       rotate_left
                       · simp only [Act.put, zs]
                         rfl
                       refine pure_ (i := 7) (N := some 22) (v := ?_) (a' := ?_) q6_b8 rfl rfl (any_of HT_.out (by kernel_rfl)) (fun _ _ _ h => h) (Or.inl ⟨by rfl, ?_⟩) ?_ ?_
                       rotate_left
                       · intro w'
                         go_simp
                         with_reducible rfl
                       rotate_left
                       · simp only [Act.put, zs]
                         rfl
                       refine pure_ (i := 9) (N := some 24) (v := ?_) (a' := ?_) q6_b9 rfl rfl (any_of HT_.out (by kernel_rfl)) (fun _ _ _ h => h) (Or.inl ⟨by rfl, ?_⟩) ?_ ?_
                       rotate_left
                       · intro w'
                         go_simp
                         with_reducible rfl
                       rotate_left
                       · simp only [Act.put, zs]
                         rfl
                       refine pure_ (i := 10) (N := some 25) (v := ?_) (a' := ?_) q6_b10 rfl rfl (any_of HT_.out (by kernel_rfl)) (fun _ _ _ h => h) (Or.inl ⟨by rfl, ?_⟩) ?_ ?_
                       rotate_left
                       · intro w'
                         go_simp
                         with_reducible rfl
                       rotate_left
                       · simp only [Act.put, zs]
                         rfl
                       refine pure_ (i := 11) (N := some 26) (v := ?_) (a' := ?_) q6_b11 rfl rfl (any_of HT_.out (by kernel_rfl)) (fun _ _ _ h => h) (Or.inl ⟨by rfl, ?_⟩) ?_ ?_
                       rotate_left
                       · intro w'
                         go_simp
                         with_reducible rfl
                       rotate_left
                       · simp only [Act.put, zs]
                         rfl
                       refine pure_ (i := 12) (N := some 27) (v := ?_) (a' := ?_) q6_b12 rfl rfl (any_of HT_.out (by kernel_rfl)) (fun _ _ _ h => h) (Or.inl ⟨by rfl, ?_⟩) ?_ ?_
                       rotate_left
                       · intro w'
                         go_simp
                         with_reducible rfl
                       rotate_left
                       · simp only [Act.put, zs]
                         rfl
                       refine pure_ (i := 13) (N := some 28) (v := ?_) (a' := ?_) q6_b13 rfl rfl (any_of HT_.out (by kernel_rfl)) (fun _ _ _ h => h) (Or.inl ⟨by rfl, ?_⟩) ?_ ?_
                       rotate_left
                       · intro w'
                         go_simp
                         with_reducible rfl
                       rotate_left
                       · simp only [Act.put, zs]
                         rfl
                       refine take_ (i := 8) (N := some 23) (v := ?_) (a' := ?_) q6_b14 rfl rfl (take_ofW HT_.out HW_.out (by kernel_rfl)) (fun _ _ _ h => h) (Or.inl ⟨by rfl, ?_⟩) hHeld ?_ ?_
                       rotate_left
                       · rintro w' ⟨s0, s1, s2, s3⟩
                         go_simp
                         with_reducible rfl
                       rotate_left
                       · simp only [Act.put, zs]
                         rfl
                       refine take_ (i := 14) (N := some 29) (v := ?_) (a' := ?_) q6_b15 rfl rfl (take_ofW HT_.out HW_.out (by kernel_rfl)) (fun _ _ _ h => h) (Or.inl ⟨by rfl, ?_⟩) hHeld ?_ ?_
                       rotate_left
                       · rintro w' ⟨s0, s1, s2, s3⟩
                         go_simp
                         with_reducible rfl
                       rotate_left
                       · simp only [Act.put, zs]
                         rfl
                       refine pure_ (i := 15) (N := some 30) (v := ?_) (a' := ?_) q6_b16 rfl rfl (any_of HT_.out (by kernel_rfl)) (fun _ _ _ h => h) (Or.inl ⟨by rfl, ?_⟩) ?_ ?_
                       rotate_left
                       · intro w'
                         go_simp
                         with_reducible rfl
                       rotate_left
                       · simp only [Act.put, zs]
                         rfl
                       refine pure_ (i := 16) (N := some 31) (v := ?_) (a' := ?_) q6_b17 rfl rfl (any_of HT_.out (by kernel_rfl)) (fun _ _ _ h => h) (Or.inl ⟨by rfl, ?_⟩) ?_ ?_
                       rotate_left
                       · intro w'
                         go_simp
                         with_reducible rfl
                       rotate_left
                       · simp only [Act.put, zs]
                         rfl
                       refine pure_ (i := 17) (N := some 32) (v := ?_) (a' := ?_) q6_b18 rfl rfl (any_of HT_.out (by kernel_rfl)) (fun _ _ _ h => h) (Or.inl ⟨by rfl, ?_⟩) ?_ ?_
                       rotate_left
                       · intro w'
                         go_simp
                         with_reducible rfl
                       rotate_left
                       · simp only [Act.put, zs]
                         rfl
                       refine done_ (done_of HT_.out (by kernel_rfl)) ?_
                       try go_wp2
                       go_ret
                       exact ⟨rfl, HB.out⟩
                     · rw [if_neg c12] at H
                       have c12b0 : decide (((rd_T30 l0 x10_1).f0) ≤ ((rd_T30 l0 (ji9)).f1)) = false := decide_eq_false c12
                       clear c12
                       have H' := Aside0.mk H
                       clear H
                       have p162 : 0 ≤ (x10_1 : Int) := of_decide_eq_true (by with_reducible assumption)
                       have q162 : x10_1 < (l0.length : Int) := of_decide_eq_true (by with_reducible assumption)
                       obtain ⟨ad162, e162, hx162_0, hx162_1⟩ := at_T30 HR0.out x10_1 p162 q162
                       cases e162
                       replace hx162_0 := (HB.out.cell (World.block_lt_of_cell? w _ hx162_0)).trans hx162_0
                       replace hx162_1 := (HB.out.cell (World.block_lt_of_cell? w _ hx162_1)).trans hx162_1
                       replace p162 := eq_true p162
                       replace q162 := eq_true q162
                       try go_wp2_with ((((with_reducible refine gate_dst (N := 4) rfl ?_); refine box_event ?hg (N := 4) ?hd (cs := #[.int .i64 0, .int .i64 0]) (t := 30) ?hr ?_; (case hd => rfl); (case hg => rfl); (case hr => (go_simp; done)); intro gb163 hg w18 hbox hb; have n0_ := Aside0.mk (below_step HB.out hb); have n1_ := Aside0.mk (hbox); have n2_ := Aside0.mk ((by rw [hg]; exact (below_size HB.out) : w.heap.size ≤ gb163)); have n3_ := Aside0.mk ((by rw [hg]; exact (below_size HB.out) : w.heap.size ≤ gb163)); clear HB; have HB := n0_; have BK163 := n1_; have GW163 := n2_; have GE163 := n3_; clear n0_ n1_ n2_ n3_; clear hb hbox hg; have hcz19_0 : w18.cell? ⟨gb163, 0, none⟩ = some (.int .i64 0) := (blk_cell BK163.out 0).trans rfl; have hcz19_1 : w18.cell? ⟨gb163, 1, none⟩ = some (.int .i64 0) := (blk_cell BK163.out 1).trans rfl; have hfz19_0 := blk_frozen BK163.out 0; have hfz19_1 := blk_frozen BK163.out 1)))
                       have n0_ : Aside0 (((w18.setCell ⟨gb163, 0, none⟩ (.int .i64 ((rd_T30 l0 x10_1).f0))).setCell ⟨gb163, 1, none⟩ (.int .i64 ((rd_T30 l0 x10_1).f1))).heap[gb163]? = some (.cells #[.int .i64 ((rd_T30 l0 x10_1).f0), .int .i64 ((rd_T30 l0 x10_1).f1)] 30 (0, 0))) := ⟨by refine blk_put (cs := #[.int .i64 ((rd_T30 l0 x10_1).f0), .int .i64 0]) ?_ 1 _ rfl; refine blk_put (cs := #[.int .i64 0, .int .i64 0]) ?_ 0 _ rfl; exact BK163.out⟩
                       have n1_ : Aside0 (Below w.heap.size w ((w18.setCell ⟨gb163, 0, none⟩ (.int .i64 ((rd_T30 l0 x10_1).f0))).setCell ⟨gb163, 1, none⟩ (.int .i64 ((rd_T30 l0 x10_1).f1)))) := ⟨by repeat (((with_reducible first | exact HB.out | refine below_set ?_ GE163.out)))⟩
                       (try clear BK163)
                       (try clear HB)
                       generalize ((w18.setCell ⟨gb163, 0, none⟩ (.int .i64 ((rd_T30 l0 x10_1).f0))).setCell ⟨gb163, 1, none⟩ (.int .i64 ((rd_T30 l0 x10_1).f1))) = w20 at n0_ n1_ ⊢
                       have BK163 := n0_
                       have HB := n1_
                       clear n0_ n1_
                       have n0_ := Aside0.mk (blk_drew BK163.out)
                       have n1_ := Aside0.mk (below_drew1 HB.out)
                       clear BK163
                       clear HB
                       have BK163 := n0_
                       have HB := n1_
                       clear n0_ n1_
                       have p165 : 0 ≤ ((ji9) : Int) := of_decide_eq_true (by with_reducible assumption)
                       have q165 : (ji9) < (l0.length : Int) := of_decide_eq_true (by with_reducible assumption)
                       obtain ⟨ad165, e165, hx165_0, hx165_1⟩ := at_T30 HR0.out (ji9) p165 q165
                       have hw165_1 := hx165_1
                       have hw165_0 := hx165_0
                       obtain rfl : ad162 = ad165 := (by injection e165)
                       replace hx165_0 := (HB.out.cell (World.block_lt_of_cell? w _ hx165_0)).trans hx165_0
                       replace hx165_1 := (HB.out.cell (World.block_lt_of_cell? w _ hx165_1)).trans hx165_1
                       replace p165 := eq_true p165
                       replace q165 := eq_true q165
                       refine start_ (n := 18) (S := fun w' => w'.cell? ⟨gb163, 0, none⟩ = some (.int .i64 ((rd_T30 l0 x10_1).f0)) ∧ w'.cell? ⟨gb163, 1, none⟩ = some (.int .i64 ((rd_T30 l0 x10_1).f1)) ∧ w'.cell? (ad162.add (((ji9)).toNat * 2)) = some (.int .i64 ((rd_T30 l0 (ji9)).f0)) ∧ w'.cell? ⟨(ad162.add (((ji9)).toNat * 2)).block, (ad162.add (((ji9)).toNat * 2)).off + 1, none⟩ = some (.int .i64 ((rd_T30 l0 (ji9)).f1))) (ds := []) q6_b0 (by kernel_rfl) rfl rfl ⟨(blk_cell BK163.out 0).trans rfl, (blk_cell BK163.out 1).trans rfl, ((HB.out.cell (World.block_lt_of_cell? w _ hw165_0)).trans hw165_0), ((HB.out.cell (World.block_lt_of_cell? w _ hw165_1)).trans hw165_1)⟩ (fun hHeld => ?_); refine with_tabW impl_RangesValid.tab6 impl_RangesValid.bits6 (fun HT_ HW_ => ?_)
                       generalize w20.drew = w21 at BK163 HB hx165_0 hx165_1 hHeld ⊢
                       refine take_ (i := 0) (N := some 15) (v := ?_) (a' := ?_) q6_b1 rfl rfl (take_ofW HT_.out HW_.out (by kernel_rfl)) (fun _ _ _ h => h) (Or.inl ⟨by rfl, ?_⟩) hHeld ?_ ?_
                       rotate_left
                       · rintro w' ⟨s0, s1, s2, s3⟩
                         go_simp
                         with_reducible rfl
                       rotate_left
                       · simp only [Act.put, zs]
                         rfl
                       refine one_ (i := 1) (N := some 16) q6_b2 rfl rfl (one_of HT_.out (by kernel_rfl)) (by decide) (fun K hK => ?_)
                       refine goes_ Tp.func51 (by kernel_rfl) rfl #[.agg #[.int .i64 ((rd_T30 l0 x10_1).f0), .int .i64 ((rd_T30 l0 x10_1).f1)]] (by rfl) rfl rfl (by (try simp only [List.map_toArray, List.map_cons, List.map_nil]); (rfl)) ?_
                       with_reducible refine (impl_rangeValid.calls ((rd_T30 l0 x10_1).f0) ((rd_T30 l0 x10_1).f1) true _ A6.out).mono ?_
                       rintro e w22 ⟨rfl, hb⟩
                       refine ⟨_, rfl, ?_⟩
                       have n0_ := Aside0.mk (blk_below (g := gb163) (o := .cells #[.int .i64 ((rd_T30 l0 x10_1).f0), .int .i64 ((rd_T30 l0 x10_1).f1)] 30 (0, 0)) (by exact BK163.out) hb)
                       have n1_ := Aside0.mk (below_step HB.out hb)
                       clear BK163
                       clear HB
                       have BK163 := n0_
                       have HB := n1_
                       clear n0_ n1_
                       (try clear hb)
                       (try clear hb2)
                       (try clear hk)
                       (try clear hi)
                       refine hK.out _ _ ⟨(blk_cell BK163.out 0).trans rfl, (blk_cell BK163.out 1).trans rfl, ((HB.out.cell (World.block_lt_of_cell? w _ hw165_0)).trans hw165_0), ((HB.out.cell (World.block_lt_of_cell? w _ hw165_1)).trans hw165_1)⟩ (fun hHeld => ?_)
                       clear hK K
                       refine norm_ (a' := ?_) ?_ ?_
                       rotate_left
                       · show Act.put _ (some 16) _ = _
                         simp only [Act.put, zs]
                         rfl
                       refine pure_ (i := 2) (N := some 17) (v := ?_) (a' := ?_) q6_b3 rfl rfl (any_of HT_.out (by kernel_rfl)) (fun _ _ _ h => h) (Or.inl ⟨by rfl, ?_⟩) ?_ ?_
                       rotate_left
                       · intro w'
                         go_simp
                         with_reducible rfl
                       rotate_left
                       · simp only [Act.put, zs]
                         rfl
                       refine pure_ (i := 3) (N := some 18) (v := ?_) (a' := ?_) q6_b4 rfl rfl (any_of HT_.out (by kernel_rfl)) (fun _ _ _ h => h) (Or.inl ⟨by rfl, ?_⟩) ?_ ?_
                       rotate_left
                       · intro w'
                         go_simp
                         with_reducible rfl
                       rotate_left
                       · simp only [Act.put, zs]
                         rfl
                       refine pure_ (i := 4) (N := some 19) (v := ?_) (a' := ?_) q6_b5 rfl rfl (any_of HT_.out (by kernel_rfl)) (fun _ _ _ h => h) (Or.inl ⟨by rfl, ?_⟩) ?_ ?_
                       rotate_left
                       · intro w'
                         go_simp
                         with_reducible rfl
                       rotate_left
                       · simp only [Act.put, zs]
                         rfl
                       refine pure_ (i := 5) (N := some 20) (v := ?_) (a' := ?_) q6_b6 rfl rfl (any_of HT_.out (by kernel_rfl)) (fun _ _ _ h => h) (Or.inl ⟨by rfl, ?_⟩) ?_ ?_
                       rotate_left
                       · intro w'
                         go_simp
                         with_reducible rfl
                       rotate_left
                       · simp only [Act.put, zs]
                         rfl
                       refine pure_ (i := 6) (N := some 21) (v := ?_) (a' := ?_) q6_b7 rfl rfl (any_of HT_.out (by kernel_rfl)) (fun _ _ _ h => h) (Or.inl ⟨by rfl, ?_⟩) ?_ ?_
                       rotate_left
                       · intro w'
                         go_simp
                         with_reducible rfl
                       rotate_left
                       · simp only [Act.put, zs]
                         rfl
                       refine pure_ (i := 7) (N := some 22) (v := ?_) (a' := ?_) q6_b8 rfl rfl (any_of HT_.out (by kernel_rfl)) (fun _ _ _ h => h) (Or.inl ⟨by rfl, ?_⟩) ?_ ?_
                       rotate_left
                       · intro w'
                         go_simp
                         with_reducible rfl
                       rotate_left
                       · simp only [Act.put, zs]
                         rfl
                       refine pure_ (i := 9) (N := some 24) (v := ?_) (a' := ?_) q6_b9 rfl rfl (any_of HT_.out (by kernel_rfl)) (fun _ _ _ h => h) (Or.inl ⟨by rfl, ?_⟩) ?_ ?_
                       rotate_left
                       · intro w'
                         go_simp
                         with_reducible rfl
                       rotate_left
                       · simp only [Act.put, zs]
                         rfl
                       refine pure_ (i := 10) (N := some 25) (v := ?_) (a' := ?_) q6_b10 rfl rfl (any_of HT_.out (by kernel_rfl)) (fun _ _ _ h => h) (Or.inl ⟨by rfl, ?_⟩) ?_ ?_
                       rotate_left
                       · intro w'
                         go_simp
                         with_reducible rfl
                       rotate_left
                       · simp only [Act.put, zs]
                         rfl
                       refine pure_ (i := 11) (N := some 26) (v := ?_) (a' := ?_) q6_b11 rfl rfl (any_of HT_.out (by kernel_rfl)) (fun _ _ _ h => h) (Or.inl ⟨by rfl, ?_⟩) ?_ ?_
                       rotate_left
                       · intro w'
                         go_simp
                         with_reducible rfl
                       rotate_left
                       · simp only [Act.put, zs]
                         rfl
                       refine pure_ (i := 12) (N := some 27) (v := ?_) (a' := ?_) q6_b12 rfl rfl (any_of HT_.out (by kernel_rfl)) (fun _ _ _ h => h) (Or.inl ⟨by rfl, ?_⟩) ?_ ?_
                       rotate_left
                       · intro w'
                         go_simp
                         with_reducible rfl
                       rotate_left
                       · simp only [Act.put, zs]
                         rfl
                       refine pure_ (i := 13) (N := some 28) (v := ?_) (a' := ?_) q6_b13 rfl rfl (any_of HT_.out (by kernel_rfl)) (fun _ _ _ h => h) (Or.inl ⟨by rfl, ?_⟩) ?_ ?_
                       rotate_left
                       · intro w'
                         go_simp
                         with_reducible rfl
                       rotate_left
                       · simp only [Act.put, zs]
                         rfl
                       refine take_ (i := 8) (N := some 23) (v := ?_) (a' := ?_) q6_b14 rfl rfl (take_ofW HT_.out HW_.out (by kernel_rfl)) (fun _ _ _ h => h) (Or.inl ⟨by rfl, ?_⟩) hHeld ?_ ?_
                       rotate_left
                       · rintro w' ⟨s0, s1, s2, s3⟩
                         go_simp
                         with_reducible rfl
                       rotate_left
                       · simp only [Act.put, zs]
                         rfl
                       refine take_ (i := 14) (N := some 29) (v := ?_) (a' := ?_) q6_b15 rfl rfl (take_ofW HT_.out HW_.out (by kernel_rfl)) (fun _ _ _ h => h) (Or.inl ⟨by rfl, ?_⟩) hHeld ?_ ?_
                       rotate_left
                       · rintro w' ⟨s0, s1, s2, s3⟩
                         go_simp
                         with_reducible rfl
                       rotate_left
                       · simp only [Act.put, zs]
                         rfl
                       refine pure_ (i := 15) (N := some 30) (v := ?_) (a' := ?_) q6_b16 rfl rfl (any_of HT_.out (by kernel_rfl)) (fun _ _ _ h => h) (Or.inl ⟨by rfl, ?_⟩) ?_ ?_
                       rotate_left
                       · intro w'
                         go_simp
                         with_reducible rfl
                       rotate_left
                       · simp only [Act.put, zs]
                         rfl
                       refine pure_ (i := 16) (N := some 31) (v := ?_) (a' := ?_) q6_b17 rfl rfl (any_of HT_.out (by kernel_rfl)) (fun _ _ _ h => h) (Or.inl ⟨by rfl, ?_⟩) ?_ ?_
                       rotate_left
                       · intro w'
                         go_simp
                         with_reducible rfl
                       rotate_left
                       · simp only [Act.put, zs]
                         rfl
                       refine pure_ (i := 17) (N := some 32) (v := ?_) (a' := ?_) q6_b18 rfl rfl (any_of HT_.out (by kernel_rfl)) (fun _ _ _ h => h) (Or.inl ⟨by rfl, ?_⟩) ?_ ?_
                       rotate_left
                       · intro w'
                         go_simp
                         with_reducible rfl
                       rotate_left
                       · simp only [Act.put, zs]
                         rfl
                       refine done_ (done_of HT_.out (by kernel_rfl)) ?_
                       try go_wp2
                       go_roundg k1
                       case measure => have := HK1.out; omega
                       case rel => exact ⟨(wrap64 (x10_1 + 1)), (by (rfl)), H', ⟨by have := HK1.out; omega⟩, ⟨HB.out⟩⟩
                   · rw [if_neg c11] at H
                     exact absurd H (by simp)
                 · rw [if_neg c10] at H
                   exact absurd H (by simp)
               · rw [if_neg c8] at H
                 have c8b0 : decide (0 < x10_1) = false := decide_eq_false c8
                 clear c8
                 have H' := Aside0.mk H
                 clear H
                 have p162 : 0 ≤ (x10_1 : Int) := of_decide_eq_true (by with_reducible assumption)
                 have q162 : x10_1 < (l0.length : Int) := of_decide_eq_true (by with_reducible assumption)
                 obtain ⟨ad162, e162, hx162_0, hx162_1⟩ := at_T30 HR0.out x10_1 p162 q162
                 cases e162
                 replace hx162_0 := (HB.out.cell (World.block_lt_of_cell? w _ hx162_0)).trans hx162_0
                 replace hx162_1 := (HB.out.cell (World.block_lt_of_cell? w _ hx162_1)).trans hx162_1
                 replace p162 := eq_true p162
                 replace q162 := eq_true q162
                 try go_wp2_with ((((with_reducible refine gate_dst (N := 4) rfl ?_); refine box_event ?hg (N := 4) ?hd (cs := #[.int .i64 0, .int .i64 0]) (t := 30) ?hr ?_; (case hd => rfl); (case hg => rfl); (case hr => (go_simp; done)); intro gb163 hg w23 hbox hb; have n0_ := Aside0.mk (below_step HB.out hb); have n1_ := Aside0.mk (hbox); have n2_ := Aside0.mk ((by rw [hg]; exact (below_size HB.out) : w.heap.size ≤ gb163)); have n3_ := Aside0.mk ((by rw [hg]; exact (below_size HB.out) : w.heap.size ≤ gb163)); clear HB; have HB := n0_; have BK163 := n1_; have GW163 := n2_; have GE163 := n3_; clear n0_ n1_ n2_ n3_; clear hb hbox hg; have hcz24_0 : w23.cell? ⟨gb163, 0, none⟩ = some (.int .i64 0) := (blk_cell BK163.out 0).trans rfl; have hcz24_1 : w23.cell? ⟨gb163, 1, none⟩ = some (.int .i64 0) := (blk_cell BK163.out 1).trans rfl; have hfz24_0 := blk_frozen BK163.out 0; have hfz24_1 := blk_frozen BK163.out 1)))
                 have n0_ : Aside0 (((w23.setCell ⟨gb163, 0, none⟩ (.int .i64 ((rd_T30 l0 x10_1).f0))).setCell ⟨gb163, 1, none⟩ (.int .i64 ((rd_T30 l0 x10_1).f1))).heap[gb163]? = some (.cells #[.int .i64 ((rd_T30 l0 x10_1).f0), .int .i64 ((rd_T30 l0 x10_1).f1)] 30 (0, 0))) := ⟨by refine blk_put (cs := #[.int .i64 ((rd_T30 l0 x10_1).f0), .int .i64 0]) ?_ 1 _ rfl; refine blk_put (cs := #[.int .i64 0, .int .i64 0]) ?_ 0 _ rfl; exact BK163.out⟩
                 have n1_ : Aside0 (Below w.heap.size w ((w23.setCell ⟨gb163, 0, none⟩ (.int .i64 ((rd_T30 l0 x10_1).f0))).setCell ⟨gb163, 1, none⟩ (.int .i64 ((rd_T30 l0 x10_1).f1)))) := ⟨by repeat (((with_reducible first | exact HB.out | refine below_set ?_ GE163.out)))⟩
                 (try clear BK163)
                 (try clear HB)
                 generalize ((w23.setCell ⟨gb163, 0, none⟩ (.int .i64 ((rd_T30 l0 x10_1).f0))).setCell ⟨gb163, 1, none⟩ (.int .i64 ((rd_T30 l0 x10_1).f1))) = w25 at n0_ n1_ ⊢
                 have BK163 := n0_
                 have HB := n1_
                 clear n0_ n1_
                 have n0_ := Aside0.mk (blk_drew BK163.out)
                 have n1_ := Aside0.mk (below_drew1 HB.out)
                 clear BK163
                 clear HB
                 have BK163 := n0_
                 have HB := n1_
                 clear n0_ n1_
                 refine start_ (n := 18) (S := fun w' => w'.cell? ⟨gb163, 0, none⟩ = some (.int .i64 ((rd_T30 l0 x10_1).f0)) ∧ w'.cell? ⟨gb163, 1, none⟩ = some (.int .i64 ((rd_T30 l0 x10_1).f1))) (ds := []) q6_b0 (by kernel_rfl) rfl rfl ⟨(blk_cell BK163.out 0).trans rfl, (blk_cell BK163.out 1).trans rfl⟩ (fun hHeld => ?_); refine with_tabW impl_RangesValid.tab6 impl_RangesValid.bits6 (fun HT_ HW_ => ?_)
                 generalize w25.drew = w26 at BK163 HB hHeld ⊢
                 refine take_ (i := 0) (N := some 15) (v := ?_) (a' := ?_) q6_b1 rfl rfl (take_ofW HT_.out HW_.out (by kernel_rfl)) (fun _ _ _ h => h) (Or.inl ⟨by rfl, ?_⟩) hHeld ?_ ?_
                 rotate_left
                 · rintro w' ⟨s0, s1⟩
                   go_simp
                   with_reducible rfl
                 rotate_left
                 · simp only [Act.put, zs]
                   rfl
                 refine one_ (i := 1) (N := some 16) q6_b2 rfl rfl (one_of HT_.out (by kernel_rfl)) (by decide) (fun K hK => ?_)
                 refine goes_ Tp.func51 (by kernel_rfl) rfl #[.agg #[.int .i64 ((rd_T30 l0 x10_1).f0), .int .i64 ((rd_T30 l0 x10_1).f1)]] (by rfl) rfl rfl (by (try simp only [List.map_toArray, List.map_cons, List.map_nil]); (rfl)) ?_
                 with_reducible refine (impl_rangeValid.calls ((rd_T30 l0 x10_1).f0) ((rd_T30 l0 x10_1).f1) true _ A6.out).mono ?_
                 rintro e w27 ⟨rfl, hb⟩
                 refine ⟨_, rfl, ?_⟩
                 have n0_ := Aside0.mk (blk_below (g := gb163) (o := .cells #[.int .i64 ((rd_T30 l0 x10_1).f0), .int .i64 ((rd_T30 l0 x10_1).f1)] 30 (0, 0)) (by exact BK163.out) hb)
                 have n1_ := Aside0.mk (below_step HB.out hb)
                 clear BK163
                 clear HB
                 have BK163 := n0_
                 have HB := n1_
                 clear n0_ n1_
                 (try clear hb)
                 (try clear hb2)
                 (try clear hk)
                 (try clear hi)
                 refine hK.out _ _ ⟨(blk_cell BK163.out 0).trans rfl, (blk_cell BK163.out 1).trans rfl⟩ (fun hHeld => ?_)
                 clear hK K
                 refine norm_ (a' := ?_) ?_ ?_
                 rotate_left
                 · show Act.put _ (some 16) _ = _
                   simp only [Act.put, zs]
                   rfl
                 refine pure_ (i := 2) (N := some 17) (v := ?_) (a' := ?_) q6_b3 rfl rfl (any_of HT_.out (by kernel_rfl)) (fun _ _ _ h => h) (Or.inl ⟨by rfl, ?_⟩) ?_ ?_
                 rotate_left
                 · intro w'
                   go_simp
                   with_reducible rfl
                 rotate_left
                 · simp only [Act.put, zs]
                   rfl
                 refine pure_ (i := 3) (N := some 18) (v := ?_) (a' := ?_) q6_b4 rfl rfl (any_of HT_.out (by kernel_rfl)) (fun _ _ _ h => h) (Or.inl ⟨by rfl, ?_⟩) ?_ ?_
                 rotate_left
                 · intro w'
                   go_simp
                   with_reducible rfl
                 rotate_left
                 · simp only [Act.put, zs]
                   rfl
                 refine pure_ (i := 4) (N := some 19) (v := ?_) (a' := ?_) q6_b5 rfl rfl (any_of HT_.out (by kernel_rfl)) (fun _ _ _ h => h) (Or.inl ⟨by rfl, ?_⟩) ?_ ?_
                 rotate_left
                 · intro w'
                   go_simp
                   with_reducible rfl
                 rotate_left
                 · simp only [Act.put, zs]
                   rfl
                 refine pure_ (i := 5) (N := some 20) (v := ?_) (a' := ?_) q6_b6 rfl rfl (any_of HT_.out (by kernel_rfl)) (fun _ _ _ h => h) (Or.inl ⟨by rfl, ?_⟩) ?_ ?_
                 rotate_left
                 · intro w'
                   go_simp
                   with_reducible rfl
                 rotate_left
                 · simp only [Act.put, zs]
                   rfl
                 refine pure_ (i := 6) (N := some 21) (v := ?_) (a' := ?_) q6_b7 rfl rfl (any_of HT_.out (by kernel_rfl)) (fun _ _ _ h => h) (Or.inl ⟨by rfl, ?_⟩) ?_ ?_
                 rotate_left
                 · intro w'
                   go_simp
                   with_reducible rfl
                 rotate_left
                 · simp only [Act.put, zs]
                   rfl
                 refine pure_ (i := 7) (N := some 22) (v := undef) (a' := ?_) q6_b8 rfl rfl (any_of HT_.out (by kernel_rfl)) (fun _ _ _ h => h) (Or.inr ⟨by rfl, rfl⟩) ?_ ?_
                 rotate_left
                 · simp only [Act.put, zs]
                   rfl
                 refine pure_ (i := 8) (N := some 23) (v := undef) (a' := ?_) q6_b19 rfl rfl (any_of HT_.out (by kernel_rfl)) (fun _ _ _ h => h) (Or.inr ⟨by rfl, rfl⟩) ?_ ?_
                 rotate_left
                 · simp only [Act.put, zs]
                   rfl
                 refine pure_ (i := 9) (N := some 24) (v := undef) (a' := ?_) q6_b20 rfl rfl (any_of HT_.out (by kernel_rfl)) (fun _ _ _ h => h) (Or.inr ⟨by rfl, rfl⟩) ?_ ?_
                 rotate_left
                 · simp only [Act.put, zs]
                   rfl
                 refine pure_ (i := 10) (N := some 25) (v := undef) (a' := ?_) q6_b21 rfl rfl (any_of HT_.out (by kernel_rfl)) (fun _ _ _ h => h) (Or.inr ⟨by rfl, rfl⟩) ?_ ?_
                 rotate_left
                 · simp only [Act.put, zs]
                   rfl
                 refine pure_ (i := 11) (N := some 26) (v := undef) (a' := ?_) q6_b22 rfl rfl (any_of HT_.out (by kernel_rfl)) (fun _ _ _ h => h) (Or.inr ⟨by rfl, rfl⟩) ?_ ?_
                 rotate_left
                 · simp only [Act.put, zs]
                   rfl
                 refine pure_ (i := 12) (N := some 27) (v := undef) (a' := ?_) q6_b23 rfl rfl (any_of HT_.out (by kernel_rfl)) (fun _ _ _ h => h) (Or.inr ⟨by rfl, rfl⟩) ?_ ?_
                 rotate_left
                 · simp only [Act.put, zs]
                   rfl
                 refine pure_ (i := 13) (N := some 28) (v := undef) (a' := ?_) q6_b14 rfl rfl (any_of HT_.out (by kernel_rfl)) (fun _ _ _ h => h) (Or.inr ⟨by rfl, rfl⟩) ?_ ?_
                 rotate_left
                 · simp only [Act.put, zs]
                   rfl
                 refine pure_ (i := 14) (N := some 29) (v := undef) (a' := ?_) q6_b15 rfl rfl (any_of HT_.out (by kernel_rfl)) (fun _ _ _ h => h) (Or.inr ⟨by rfl, rfl⟩) ?_ ?_
                 rotate_left
                 · simp only [Act.put, zs]
                   rfl
                 refine pure_ (i := 15) (N := some 30) (v := undef) (a' := ?_) q6_b16 rfl rfl (any_of HT_.out (by kernel_rfl)) (fun _ _ _ h => h) (Or.inr ⟨by rfl, rfl⟩) ?_ ?_
                 rotate_left
                 · simp only [Act.put, zs]
                   rfl
                 refine pure_ (i := 16) (N := some 31) (v := ?_) (a' := ?_) q6_b17 rfl rfl (any_of HT_.out (by kernel_rfl)) (fun _ _ _ h => h) (Or.inl ⟨by rfl, ?_⟩) ?_ ?_
                 rotate_left
                 · intro w'
                   go_simp
                   with_reducible rfl
                 rotate_left
                 · simp only [Act.put, zs]
                   rfl
                 refine pure_ (i := 17) (N := some 32) (v := ?_) (a' := ?_) q6_b18 rfl rfl (any_of HT_.out (by kernel_rfl)) (fun _ _ _ h => h) (Or.inl ⟨by rfl, ?_⟩) ?_ ?_
                 rotate_left
                 · intro w'
                   go_simp
                   with_reducible rfl
                 rotate_left
                 · simp only [Act.put, zs]
                   rfl
                 refine done_ (done_of HT_.out (by kernel_rfl)) ?_
                 try go_wp2
                 go_roundg k1
                 case measure => have := HK1.out; omega
                 case rel => exact ⟨(wrap64 (x10_1 + 1)), (by (rfl)), H', ⟨by have := HK1.out; omega⟩, ⟨HB.out⟩⟩
             · replace c7 := Bool.eq_false_iff.mpr c7
               subst c7
               have H1 : (some false) = some r := by rw [if_neg (show ¬ (false = true) by decide)] at H; exact H
               clear H
               have H := H1
               clear H1
               obtain rfl := Option.some.inj H
               have p162 : 0 ≤ (x10_1 : Int) := of_decide_eq_true (by with_reducible assumption)
               have q162 : x10_1 < (l0.length : Int) := of_decide_eq_true (by with_reducible assumption)
               obtain ⟨ad162, e162, hx162_0, hx162_1⟩ := at_T30 HR0.out x10_1 p162 q162
               cases e162
               replace hx162_0 := (HB.out.cell (World.block_lt_of_cell? w _ hx162_0)).trans hx162_0
               replace hx162_1 := (HB.out.cell (World.block_lt_of_cell? w _ hx162_1)).trans hx162_1
               replace p162 := eq_true p162
               replace q162 := eq_true q162
               try go_wp2_with ((((with_reducible refine gate_dst (N := 4) rfl ?_); refine box_event ?hg (N := 4) ?hd (cs := #[.int .i64 0, .int .i64 0]) (t := 30) ?hr ?_; (case hd => rfl); (case hg => rfl); (case hr => (go_simp; done)); intro gb163 hg w28 hbox hb; have n0_ := Aside0.mk (below_step HB.out hb); have n1_ := Aside0.mk (hbox); have n2_ := Aside0.mk ((by rw [hg]; exact (below_size HB.out) : w.heap.size ≤ gb163)); have n3_ := Aside0.mk ((by rw [hg]; exact (below_size HB.out) : w.heap.size ≤ gb163)); clear HB; have HB := n0_; have BK163 := n1_; have GW163 := n2_; have GE163 := n3_; clear n0_ n1_ n2_ n3_; clear hb hbox hg; have hcz29_0 : w28.cell? ⟨gb163, 0, none⟩ = some (.int .i64 0) := (blk_cell BK163.out 0).trans rfl; have hcz29_1 : w28.cell? ⟨gb163, 1, none⟩ = some (.int .i64 0) := (blk_cell BK163.out 1).trans rfl; have hfz29_0 := blk_frozen BK163.out 0; have hfz29_1 := blk_frozen BK163.out 1)))
               have n0_ : Aside0 (((w28.setCell ⟨gb163, 0, none⟩ (.int .i64 ((rd_T30 l0 x10_1).f0))).setCell ⟨gb163, 1, none⟩ (.int .i64 ((rd_T30 l0 x10_1).f1))).heap[gb163]? = some (.cells #[.int .i64 ((rd_T30 l0 x10_1).f0), .int .i64 ((rd_T30 l0 x10_1).f1)] 30 (0, 0))) := ⟨by refine blk_put (cs := #[.int .i64 ((rd_T30 l0 x10_1).f0), .int .i64 0]) ?_ 1 _ rfl; refine blk_put (cs := #[.int .i64 0, .int .i64 0]) ?_ 0 _ rfl; exact BK163.out⟩
               have n1_ : Aside0 (Below w.heap.size w ((w28.setCell ⟨gb163, 0, none⟩ (.int .i64 ((rd_T30 l0 x10_1).f0))).setCell ⟨gb163, 1, none⟩ (.int .i64 ((rd_T30 l0 x10_1).f1)))) := ⟨by repeat (((with_reducible first | exact HB.out | refine below_set ?_ GE163.out)))⟩
               (try clear BK163)
               (try clear HB)
               generalize ((w28.setCell ⟨gb163, 0, none⟩ (.int .i64 ((rd_T30 l0 x10_1).f0))).setCell ⟨gb163, 1, none⟩ (.int .i64 ((rd_T30 l0 x10_1).f1))) = w30 at n0_ n1_ ⊢
               have BK163 := n0_
               have HB := n1_
               clear n0_ n1_
               have n0_ := Aside0.mk (blk_drew BK163.out)
               have n1_ := Aside0.mk (below_drew1 HB.out)
               clear BK163
               clear HB
               have BK163 := n0_
               have HB := n1_
               clear n0_ n1_
               refine start_ (n := 18) (S := fun w' => w'.cell? ⟨gb163, 0, none⟩ = some (.int .i64 ((rd_T30 l0 x10_1).f0)) ∧ w'.cell? ⟨gb163, 1, none⟩ = some (.int .i64 ((rd_T30 l0 x10_1).f1))) (ds := []) q6_b0 (by kernel_rfl) rfl rfl ⟨(blk_cell BK163.out 0).trans rfl, (blk_cell BK163.out 1).trans rfl⟩ (fun hHeld => ?_); refine with_tabW impl_RangesValid.tab6 impl_RangesValid.bits6 (fun HT_ HW_ => ?_)
               generalize w30.drew = w31 at BK163 HB hHeld ⊢
               refine take_ (i := 0) (N := some 15) (v := ?_) (a' := ?_) q6_b1 rfl rfl (take_ofW HT_.out HW_.out (by kernel_rfl)) (fun _ _ _ h => h) (Or.inl ⟨by rfl, ?_⟩) hHeld ?_ ?_
               rotate_left
               · rintro w' ⟨s0, s1⟩
                 go_simp
                 with_reducible rfl
               rotate_left
               · simp only [Act.put, zs]
                 rfl
               refine one_ (i := 1) (N := some 16) q6_b2 rfl rfl (one_of HT_.out (by kernel_rfl)) (by decide) (fun K hK => ?_)
               refine goes_ Tp.func51 (by kernel_rfl) rfl #[.agg #[.int .i64 ((rd_T30 l0 x10_1).f0), .int .i64 ((rd_T30 l0 x10_1).f1)]] (by rfl) rfl rfl (by (try simp only [List.map_toArray, List.map_cons, List.map_nil]); (rfl)) ?_
               with_reducible refine (impl_rangeValid.calls ((rd_T30 l0 x10_1).f0) ((rd_T30 l0 x10_1).f1) false _ A6.out).mono ?_
               rintro e w32 ⟨rfl, hb⟩
               refine ⟨_, rfl, ?_⟩
               have n0_ := Aside0.mk (blk_below (g := gb163) (o := .cells #[.int .i64 ((rd_T30 l0 x10_1).f0), .int .i64 ((rd_T30 l0 x10_1).f1)] 30 (0, 0)) (by exact BK163.out) hb)
               have n1_ := Aside0.mk (below_step HB.out hb)
               clear BK163
               clear HB
               have BK163 := n0_
               have HB := n1_
               clear n0_ n1_
               (try clear hb)
               (try clear hb2)
               (try clear hk)
               (try clear hi)
               refine hK.out _ _ ⟨(blk_cell BK163.out 0).trans rfl, (blk_cell BK163.out 1).trans rfl⟩ (fun hHeld => ?_)
               clear hK K
               refine norm_ (a' := ?_) ?_ ?_
               rotate_left
               · show Act.put _ (some 16) _ = _
                 simp only [Act.put, zs]
                 rfl
               refine pure_ (i := 2) (N := some 17) (v := ?_) (a' := ?_) q6_b3 rfl rfl (any_of HT_.out (by kernel_rfl)) (fun _ _ _ h => h) (Or.inl ⟨by rfl, ?_⟩) ?_ ?_
               rotate_left
               · intro w'
                 go_simp
                 with_reducible rfl
               rotate_left
               · simp only [Act.put, zs]
                 rfl
               refine pure_ (i := 3) (N := some 18) (v := ?_) (a' := ?_) q6_b4 rfl rfl (any_of HT_.out (by kernel_rfl)) (fun _ _ _ h => h) (Or.inl ⟨by rfl, ?_⟩) ?_ ?_
               rotate_left
               · intro w'
                 go_simp
                 with_reducible rfl
               rotate_left
               · simp only [Act.put, zs]
                 rfl
               refine pure_ (i := 4) (N := some 19) (v := undef) (a' := ?_) q6_b5 rfl rfl (any_of HT_.out (by kernel_rfl)) (fun _ _ _ h => h) (Or.inr ⟨by rfl, rfl⟩) ?_ ?_
               rotate_left
               · simp only [Act.put, zs]
                 rfl
               refine pure_ (i := 5) (N := some 20) (v := undef) (a' := ?_) q6_b6 rfl rfl (any_of HT_.out (by kernel_rfl)) (fun _ _ _ h => h) (Or.inr ⟨by rfl, rfl⟩) ?_ ?_
               rotate_left
               · simp only [Act.put, zs]
                 rfl
               refine pure_ (i := 6) (N := some 21) (v := undef) (a' := ?_) q6_b7 rfl rfl (any_of HT_.out (by kernel_rfl)) (fun _ _ _ h => h) (Or.inr ⟨by rfl, rfl⟩) ?_ ?_
               rotate_left
               · simp only [Act.put, zs]
                 rfl
               refine pure_ (i := 7) (N := some 22) (v := undef) (a' := ?_) q6_b8 rfl rfl (any_of HT_.out (by kernel_rfl)) (fun _ _ _ h => h) (Or.inr ⟨by rfl, rfl⟩) ?_ ?_
               rotate_left
               · simp only [Act.put, zs]
                 rfl
               refine pure_ (i := 8) (N := some 23) (v := undef) (a' := ?_) q6_b19 rfl rfl (any_of HT_.out (by kernel_rfl)) (fun _ _ _ h => h) (Or.inr ⟨by rfl, rfl⟩) ?_ ?_
               rotate_left
               · simp only [Act.put, zs]
                 rfl
               refine pure_ (i := 9) (N := some 24) (v := undef) (a' := ?_) q6_b20 rfl rfl (any_of HT_.out (by kernel_rfl)) (fun _ _ _ h => h) (Or.inr ⟨by rfl, rfl⟩) ?_ ?_
               rotate_left
               · simp only [Act.put, zs]
                 rfl
               refine pure_ (i := 10) (N := some 25) (v := undef) (a' := ?_) q6_b21 rfl rfl (any_of HT_.out (by kernel_rfl)) (fun _ _ _ h => h) (Or.inr ⟨by rfl, rfl⟩) ?_ ?_
               rotate_left
               · simp only [Act.put, zs]
                 rfl
               refine pure_ (i := 11) (N := some 26) (v := undef) (a' := ?_) q6_b22 rfl rfl (any_of HT_.out (by kernel_rfl)) (fun _ _ _ h => h) (Or.inr ⟨by rfl, rfl⟩) ?_ ?_
               rotate_left
               · simp only [Act.put, zs]
                 rfl
               refine pure_ (i := 12) (N := some 27) (v := undef) (a' := ?_) q6_b23 rfl rfl (any_of HT_.out (by kernel_rfl)) (fun _ _ _ h => h) (Or.inr ⟨by rfl, rfl⟩) ?_ ?_
               rotate_left
               · simp only [Act.put, zs]
                 rfl
               refine pure_ (i := 13) (N := some 28) (v := undef) (a' := ?_) q6_b14 rfl rfl (any_of HT_.out (by kernel_rfl)) (fun _ _ _ h => h) (Or.inr ⟨by rfl, rfl⟩) ?_ ?_
               rotate_left
               · simp only [Act.put, zs]
                 rfl
               refine pure_ (i := 14) (N := some 29) (v := undef) (a' := ?_) q6_b15 rfl rfl (any_of HT_.out (by kernel_rfl)) (fun _ _ _ h => h) (Or.inr ⟨by rfl, rfl⟩) ?_ ?_
               rotate_left
               · simp only [Act.put, zs]
                 rfl
               refine pure_ (i := 15) (N := some 30) (v := undef) (a' := ?_) q6_b16 rfl rfl (any_of HT_.out (by kernel_rfl)) (fun _ _ _ h => h) (Or.inr ⟨by rfl, rfl⟩) ?_ ?_
               rotate_left
               · simp only [Act.put, zs]
                 rfl
               refine pure_ (i := 16) (N := some 31) (v := undef) (a' := ?_) q6_b17 rfl rfl (any_of HT_.out (by kernel_rfl)) (fun _ _ _ h => h) (Or.inr ⟨by rfl, rfl⟩) ?_ ?_
               rotate_left
               · simp only [Act.put, zs]
                 rfl
               refine pure_ (i := 17) (N := some 32) (v := ?_) (a' := ?_) q6_b18 rfl rfl (any_of HT_.out (by kernel_rfl)) (fun _ _ _ h => h) (Or.inl ⟨by rfl, ?_⟩) ?_ ?_
               rotate_left
               · intro w'
                 go_simp
                 with_reducible rfl
               rotate_left
               · simp only [Act.put, zs]
                 rfl
               refine done_ (done_of HT_.out (by kernel_rfl)) ?_
               try go_wp2
               go_ret
               exact ⟨rfl, HB.out⟩
           · rw [if_neg c5] at H
             exact absurd H (by simp)
         · rw [if_neg c4] at H
           exact absurd H (by simp)
       · rw [if_neg c3] at H
         have c3b0 : decide (x10_1 < (l0.length : Int)) = false := decide_eq_false c3
         clear c3
         obtain rfl := Option.some.inj H
         go_wp2
         go_ret
         exact ⟨rfl, HB.out⟩
end Go.Proofs.Ytcoppnbjpncdcaa.PAll
end
section
set_option linter.unusedVariables false
set_option linter.unusedSimpArgs false
namespace Go.Proofs.Ytcoppnbjpncdcaa.Q
open Go Go.Conc Go.Proofs.Ytcoppnbjpncdcaa.Sim
section
variable (Z : Zs Tp.prog) {T : Array Value} {v : World} {n c bl lo : Nat} {p : Option Addr} {p5 : Value} {least : Int}
theorem fwdA (hsz : T.size = 63) (h5 : evalT T (.tmp 5) = .pointer (some ⟨bl, lo, none⟩)) (hc : v.cell? ⟨bl, lo, none⟩ = some (.int .i64 least)) (h7 : evalT T (.tmp 7) = .slice p n c) (hn : n ≤ 9) (h : Z.st T [.code Tp.tail] v) :
   ∃ T', TA n (.slice p n c) (.pointer (some ⟨bl, lo, none⟩)) least T' ∧ evalT T' (.tmp 20) = .int .i64 (0 : Nat) ∧ Z.st T' [.code Tp.lpA, .inLoop Tp.lpA, .inBlock 0, .code Tp.t4] (husks v 5) := by
 replace h := Z.run (offP_ok _) 2 h
 simp only [Tp.tail, evRun, evStep, show Tp.opsA.size = 4 from rfl, List.range, List.range.loop] at h
 replace h := Z.val h (o := Tp.op 15 (.load 3 (.tmp 5))) rfl rfl (run_ldS rfl h5 hc)
 rw [show (Tp.op 15 (.load 3 (.tmp 5))).dst = some 15 from rfl] at h
 have e15 : ∀ s : Nat, s ≠ 15 → evalT (putT T (some 15) (.int .i64 least)) (.tmp s) = evalT T (.tmp s) := fun s hs => ev_ne hsz (by decide) hs
 have g15 : evalT (putT T (some 15) (.int .i64 least)) (.tmp 15) = .int .i64 least := ev_eq hsz (by decide)
 have z1 : (putT T (some 15) (.int .i64 least)).size = 63 := by rw [size_putT]; exact hsz
 have k5 := (e15 5 (by decide)).trans h5
 have k7 := (e15 7 (by decide)).trans h7
 generalize putT T (some 15) (.int .i64 least) = T1 at *
 replace h := Z.pv h (o := Tp.op 16 (.binOp .lss 3 (.tmp 15) Tp.i0 3)) (x := .bool (decide (least < 0))) rfl rfl (by simp [Tp.op, evPure, g15, Tp.i0, evalT_const, intBin])
 rw [show (Tp.op 16 (.binOp .lss 3 (.tmp 15) Tp.i0 3)).dst = some 16 from rfl] at h
 have e16 : ∀ s : Nat, s ≠ 16 → evalT (putT T1 (some 16) (.bool (decide (least < 0)))) (.tmp s) = evalT T1 (.tmp s) := fun s hs => ev_ne z1 (by decide) hs
 have z2 : (putT T1 (some 16) (.bool (decide (least < 0)))).size = 63 := by rw [size_putT]; exact z1
 have l5 := (e16 5 (by decide)).trans k5
 have l7 := (e16 7 (by decide)).trans k7
 have l15 := (e16 15 (by decide)).trans g15
 generalize putT T1 (some 16) (.bool (decide (least < 0))) = T2 at *
 replace h := Z.val h (o := Tp.lenOp 17 7) rfl rfl (run_lenS (x := .tmp 7) rfl rfl l7)
 rw [show (Tp.lenOp 17 7).dst = some 17 from rfl] at h
 have e17 : ∀ s : Nat, s ≠ 17 → evalT (putT T2 (some 17) (.int .i64 n)) (.tmp s) = evalT T2 (.tmp s) := fun s hs => ev_ne z2 (by decide) hs
 have g17 : evalT (putT T2 (some 17) (.int .i64 n)) (.tmp 17) = .int .i64 n := ev_eq z2 (by decide)
 have z3 : (putT T2 (some 17) (.int .i64 n)).size = 63 := by rw [size_putT]; exact z2
 have hTA : TA n (.slice p n c) (.pointer (some ⟨bl, lo, none⟩)) least (putT T2 (some 17) (.int .i64 n)) := ⟨z3, (e17 5 (by decide)).trans l5, (e17 7 (by decide)).trans l7, (e17 15 (by decide)).trans l15, g17⟩
 generalize putT T2 (some 17) (.int .i64 n) = T3 at *
 replace h := Z.pv h (o := Tp.op 18 (.binOp .leq 3 (.tmp 17) (.const (.int .i64 9)) 3)) (x := .bool true) rfl rfl (by simp [Tp.op, evPure, g17, evalT_const, intBin]; omega)
 rw [show (Tp.op 18 (.binOp .leq 3 (.tmp 17) (.const (.int .i64 9)) 3)).dst = some 18 from rfl] at h
 have g18 : evalT (putT T3 (some 18) (.bool true)) (.tmp 18) = .bool true := ev_eq z3 (by decide)
 have hTB := hTA.put (t := 18) (by decide) (by decide) (.bool true)
 generalize putT T3 (some 18) (.bool true) = T4 at *
 replace h := Z.run (offP_ok _) 6 h
 simp only [evRun, evStep, Tp.t1, g18, Tp.t2, show Tp.opsB.size = 6 from rfl, List.range, List.range.loop] at h
 rw [← husks_zero v] at h
 obtain ⟨x1, h⟩ := Z.husk h rfl
 have hT5 := hTB.put (t := 19) (by decide) (by decide) x1
 obtain ⟨x2, h⟩ := Z.husk h rfl
 have hT6 := hT5.put (t := 19) (by decide) (by decide) x2
 obtain ⟨x3, h⟩ := Z.husk h rfl
 have hT7 := hT6.put (t := 19) (by decide) (by decide) x3
 obtain ⟨x4, h⟩ := Z.husk h rfl
 have hT8 := hT7.put (t := 19) (by decide) (by decide) x4
 obtain ⟨x5, h⟩ := Z.husk h rfl
 have hT9 := hT8.put (t := 19) (by decide) (by decide) x5
 generalize putT (putT (putT (putT (putT T4 (some 19) x1) (some 19) x2) (some 19) x3) (some 19) x4) (some 19) x5 = T9 at h hT9
 replace h := Z.pv h (o := Tp.op 20 (.move Tp.i0)) (x := .int .i64 (0 : Nat)) rfl rfl (by simp [Tp.op, evPure, Tp.i0, evalT_const])
 rw [show (Tp.op 20 (.move Tp.i0)).dst = some 20 from rfl] at h
 have g20 := ev_eq (t := 20) (v := .int .i64 (0 : Nat)) hT9.size (by decide)
 have hT10 := hT9.put (t := 20) (by decide) (by decide) (.int .i64 (0 : Nat))
 generalize putT T9 (some 20) (.int .i64 (0 : Nat)) = T10 at *
 replace h := Z.run (offP_ok _) 4 h
 simp only [evRun, evStep, Tp.t3] at h
 exact ⟨T10, hT10, g20, h⟩
theorem fwdExit (hT : TA n (.slice p n c) p5 least T) (h20 : evalT T (.tmp 20) = .int .i64 n) (h : Z.st T [.code Tp.lpA, .inLoop Tp.lpA, .inBlock 0, .code Tp.t4] v) : ∃ T', TA n (.slice p n c) p5 least T' ∧ Z.st T' [.code Tp.t4] v := by
 replace h := Z.run (offP_ok _) 2 h
 simp only [evRun, evStep, Tp.lpA, show Tp.opsT.size = 1 from rfl, List.range, List.range.loop] at h
 replace h := Z.pv h (o := Tp.op 21 (.binOp .lss 3 (.tmp 20) (.tmp 17) 3)) (x := .bool false) rfl rfl (by simp [Tp.op, evPure, h20, hT.s17, intBin])
 rw [show (Tp.op 21 (.binOp .lss 3 (.tmp 20) (.tmp 17) 3)).dst = some 21 from rfl] at h
 have g21 : evalT (putT T (some 21) (.bool false)) (.tmp 21) = .bool false := ev_eq hT.size (by decide)
 have hT1 := hT.put (t := 21) (by decide) (by decide) (.bool false)
 generalize putT T (some 21) (.bool false) = T1 at *
 replace h := Z.run (offP_ok _) 4 h
 simp only [evRun, evStep, g21, exitTo, beq_self_eq_true, ↓reduceIte] at h
 exact ⟨T1, hT1, h⟩
variable {V0 off : Nat} {xs ys : Nat → Int}
theorem fwdRound {m i : Nat} {x y : Int} (hi : i < n) (hn : n ≤ 9) (hT : TA n (.slice (some ⟨V0, off, none⟩) n c) p5 least T) (h20 : evalT T (.tmp 20) = .int .i64 i) (hx : v.cell? ⟨V0, off + 2 * i, none⟩ = some (.int .i64 x)) (hy : v.cell? ⟨V0, off + 2 * i + 1, none⟩ = some (.int .i64 y))
   (h : Z.st T [.code Tp.lpA, .inLoop Tp.lpA, .inBlock 0, .code Tp.t4] (husks v m)) :
   ∃ T', TA n (.slice (some ⟨V0, off, none⟩) n c) p5 least T' ∧ evalT T' (.tmp 20) = .int .i64 (i + 1 : Nat) ∧ Z.st T' [.code Tp.lpA, .inLoop Tp.lpA, .inBlock 0, .code Tp.t4] (husks v (m + 3)) := by
 replace h := Z.run (offP_ok _) 2 h
 simp only [evRun, evStep, Tp.lpA, show Tp.opsT.size = 1 from rfl, List.range, List.range.loop] at h
 replace h := Z.pv h (o := Tp.op 21 (.binOp .lss 3 (.tmp 20) (.tmp 17) 3)) (x := .bool true) rfl rfl (by simp [Tp.op, evPure, h20, hT.s17, intBin, hi])
 rw [show (Tp.op 21 (.binOp .lss 3 (.tmp 20) (.tmp 17) 3)).dst = some 21 from rfl] at h
 have g21 : evalT (putT T (some 21) (.bool true)) (.tmp 21) = .bool true := ev_eq hT.size (by decide)
 have hT1 := hT.put (t := 21) (by decide) (by decide) (.bool true)
 have a20 := (ev_ne (v := .bool true) (s := 20) (t := 21) hT.size (by decide) (by decide)).trans h20
 generalize putT T (some 21) (.bool true) = T1 at *
 replace h := Z.run (offP_ok _) 5 h
 simp only [evRun, evStep, g21, show Tp.opsC.size = 11 from rfl, List.range, List.range.loop] at h
 have hx' := husks_cell' (k := m) hx
 have hy' := husks_cell' (k := m) hy
 replace h := Z.val h (o := Tp.op 22 (.indexAddr 28 (.tmp 7) (.tmp 20))) rfl rfl (run_ixS (x := .tmp 7) (y := .tmp 20) rfl hT1.s7 a20 hi)
 rw [show (Tp.op 22 (.indexAddr 28 (.tmp 7) (.tmp 20))).dst = some 22 from rfl] at h
 have g22 := ev_eq (t := 22) (v := .pointer (some ⟨V0, off + 2 * i, none⟩)) hT1.size (by decide)
 have b20 := (ev_ne (v := .pointer (some ⟨V0, off + 2 * i, none⟩)) (s := 20) (t := 22) hT1.size (by decide) (by decide)).trans a20
 have hT3 := hT1.put (t := 22) (by decide) (by decide) (.pointer (some ⟨V0, off + 2 * i, none⟩))
 generalize putT T1 (some 22) (.pointer (some ⟨V0, off + 2 * i, none⟩)) = T3 at *
 replace h := Z.pv h (o := Tp.op 23 (.fieldAddr 30 (.tmp 22) 0)) (x := .pointer (some ⟨V0, off + 2 * i, none⟩)) rfl rfl (by simp [Tp.op, evPure, g22, offT_0, Addr.add])
 rw [show (Tp.op 23 (.fieldAddr 30 (.tmp 22) 0)).dst = some 23 from rfl] at h
 have g23 := ev_eq (t := 23) (v := .pointer (some ⟨V0, off + 2 * i, none⟩)) hT3.size (by decide)
 have c20 := (ev_ne (v := .pointer (some ⟨V0, off + 2 * i, none⟩)) (s := 20) (t := 23) hT3.size (by decide) (by decide)).trans b20
 have c22 := (ev_ne (v := .pointer (some ⟨V0, off + 2 * i, none⟩)) (s := 22) (t := 23) hT3.size (by decide) (by decide)).trans g22
 have hT4 := hT3.put (t := 23) (by decide) (by decide) (.pointer (some ⟨V0, off + 2 * i, none⟩))
 generalize putT T3 (some 23) (.pointer (some ⟨V0, off + 2 * i, none⟩)) = T4 at *
 replace h := Z.val h (o := Tp.op 24 (.load 3 (.tmp 23))) rfl rfl (run_ldS rfl g23 hx')
 rw [show (Tp.op 24 (.load 3 (.tmp 23))).dst = some 24 from rfl] at h
 have g24 := ev_eq (t := 24) (v := .int .i64 x) hT4.size (by decide)
 have d20 := (ev_ne (v := .int .i64 x) (s := 20) (t := 24) hT4.size (by decide) (by decide)).trans c20
 have d22 := (ev_ne (v := .int .i64 x) (s := 22) (t := 24) hT4.size (by decide) (by decide)).trans c22
 have hT5 := hT4.put (t := 24) (by decide) (by decide) (.int .i64 x)
 generalize putT T4 (some 24) (.int .i64 x) = T5 at *
 replace h := Z.pv h (o := Tp.op 25 (.fieldAddr 30 (.tmp 22) 1)) (x := .pointer (some ⟨V0, off + 2 * i + 1, none⟩)) rfl rfl (by simp [Tp.op, evPure, d22, offT_1, Addr.add])
 rw [show (Tp.op 25 (.fieldAddr 30 (.tmp 22) 1)).dst = some 25 from rfl] at h
 have g25 := ev_eq (t := 25) (v := .pointer (some ⟨V0, off + 2 * i + 1, none⟩)) hT5.size (by decide)
 have e20 := (ev_ne (v := .pointer (some ⟨V0, off + 2 * i + 1, none⟩)) (s := 20) (t := 25) hT5.size (by decide) (by decide)).trans d20
 have e24 := (ev_ne (v := .pointer (some ⟨V0, off + 2 * i + 1, none⟩)) (s := 24) (t := 25) hT5.size (by decide) (by decide)).trans g24
 have hT6 := hT5.put (t := 25) (by decide) (by decide) (.pointer (some ⟨V0, off + 2 * i + 1, none⟩))
 generalize putT T5 (some 25) (.pointer (some ⟨V0, off + 2 * i + 1, none⟩)) = T6 at *
 replace h := Z.val h (o := Tp.op 26 (.load 3 (.tmp 25))) rfl rfl (run_ldS rfl g25 hy')
 rw [show (Tp.op 26 (.load 3 (.tmp 25))).dst = some 26 from rfl] at h
 have g26 := ev_eq (t := 26) (v := .int .i64 y) hT6.size (by decide)
 have f20 := (ev_ne (v := .int .i64 y) (s := 20) (t := 26) hT6.size (by decide) (by decide)).trans e20
 have f24 := (ev_ne (v := .int .i64 y) (s := 24) (t := 26) hT6.size (by decide) (by decide)).trans e24
 have hT7 := hT6.put (t := 26) (by decide) (by decide) (.int .i64 y)
 generalize putT T6 (some 26) (.int .i64 y) = T7 at *
 replace h := Z.pv h (o := Tp.op 27 (.binOp .lss 3 (.tmp 24) Tp.i0 3)) (x := .bool (decide (x < 0))) rfl rfl (by simp [Tp.op, evPure, f24, Tp.i0, evalT_const, intBin])
 rw [show (Tp.op 27 (.binOp .lss 3 (.tmp 24) Tp.i0 3)).dst = some 27 from rfl] at h
 have h20' := (ev_ne (v := .bool (decide (x < 0))) (s := 20) (t := 27) hT7.size (by decide) (by decide)).trans f20
 have h26 := (ev_ne (v := .bool (decide (x < 0))) (s := 26) (t := 27) hT7.size (by decide) (by decide)).trans g26
 have hT8 := hT7.put (t := 27) (by decide) (by decide) (.bool (decide (x < 0)))
 generalize putT T7 (some 27) (.bool (decide (x < 0))) = T8 at *
 replace h := Z.pv h (o := Tp.op 27 (.binOp .lss 3 (.tmp 26) Tp.i0 3)) (x := .bool (decide (y < 0))) rfl rfl (by simp [Tp.op, evPure, h26, Tp.i0, evalT_const, intBin])
 rw [show (Tp.op 27 (.binOp .lss 3 (.tmp 26) Tp.i0 3)).dst = some 27 from rfl] at h
 have i20 := (ev_ne (v := .bool (decide (y < 0))) (s := 20) (t := 27) hT8.size (by decide) (by decide)).trans h20'
 have hT9 := hT8.put (t := 27) (by decide) (by decide) (.bool (decide (y < 0)))
 generalize putT T8 (some 27) (.bool (decide (y < 0))) = T9 at *
 obtain ⟨x1, h⟩ := Z.husk h rfl
 have hT10 := hT9.put (t := 19) (by decide) (by decide) x1
 have j20 := (ev_ne (v := x1) (s := 20) (t := 19) hT9.size (by decide) (by decide)).trans i20
 generalize putT T9 (some 19) x1 = T10 at *
 obtain ⟨x2, h⟩ := Z.husk h rfl
 have hT11 := hT10.put (t := 19) (by decide) (by decide) x2
 have k20 := (ev_ne (v := x2) (s := 20) (t := 19) hT10.size (by decide) (by decide)).trans j20
 generalize putT T10 (some 19) x2 = T11 at *
 obtain ⟨x3, h⟩ := Z.husk h rfl
 have hT12 := hT11.put (t := 19) (by decide) (by decide) x3
 have l20 := (ev_ne (v := x3) (s := 20) (t := 19) hT11.size (by decide) (by decide)).trans k20
 generalize putT T11 (some 19) x3 = T12 at *
 replace h := Z.pv h (o := Tp.op 20 (.binOp .add 3 (.tmp 20) Tp.i1 3)) (x := .int .i64 (i + 1 : Nat)) rfl rfl (by simp [Tp.op, evPure, l20, Tp.i1, evalT_const, intBin, wrap_succ hi hn])
 rw [show (Tp.op 20 (.binOp .add 3 (.tmp 20) Tp.i1 3)).dst = some 20 from rfl] at h
 have m20 := ev_eq (t := 20) (v := .int .i64 (i + 1 : Nat)) hT12.size (by decide)
 have hT13 := hT12.put (t := 20) (by decide) (by decide) (.int .i64 (i + 1 : Nat))
 generalize putT T12 (some 20) (.int .i64 (i + 1 : Nat)) = T13 at *
 replace h := Z.run (offP_ok _) 1 h
 simp only [evRun, evStep] at h
 exact ⟨T13, hT13, m20, Z.inLoop h⟩
theorem fwdLoop (hn : n ≤ 9) (hsl : 0 < n → p = some ⟨V0, off, none⟩) (hpr : ∀ j, j < n → v.cell? ⟨V0, off + 2 * j, none⟩ = some (.int .i64 (xs j)) ∧ v.cell? ⟨V0, off + 2 * j + 1, none⟩ = some (.int .i64 (ys j))) :
   ∀ (r i : Nat) (T : Array Value), n = i + r → TA n (.slice p n c) p5 least T → evalT T (.tmp 20) = .int .i64 i → Z.st T [.code Tp.lpA, .inLoop Tp.lpA, .inBlock 0, .code Tp.t4] (husks v (5 + 3 * i)) → ∃ T', TA n (.slice p n c) p5 least T' ∧ Z.st T' [.code Tp.t4] (husks v (5 + 3 * n))
 | 0, i, T, hr, hT, h20, h => by
   obtain rfl : n = i := by omega
   exact fwdExit Z hT h20 h
 | r + 1, i, T, hr, hT, h20, h => by
   have ih := fwdLoop hn hsl hpr r (i + 1)
   have e := hsl (by omega)
   subst e
   obtain ⟨T1, hT1, h1, h'⟩ := fwdRound Z (by omega) hn hT h20 (hpr i (by omega)).1 (hpr i (by omega)).2 h
   exact ih T1 (by omega) hT1 h1 h'
end
end Go.Proofs.Ytcoppnbjpncdcaa.Q
end
section
set_option linter.unusedVariables false
set_option linter.unusedSimpArgs false
namespace Go.Proofs.Ytcoppnbjpncdcaa.Q
open Go Go.Conc Go.RowKit Go.Proofs.Ytcoppnbjpncdcaa.Sim
def longB (least x y : Int) : Bool := decide (IntKind.i64.wrap (y - x) ≥ least)
def selL (xs ys : Nat → Int) (least : Int) (i : Nat) : List (Int × Int) := ((List.range i).filter fun j => longB least (xs j) (ys j)).map fun j => (xs j, ys j)
theorem selL_succ (xs ys : Nat → Int) (least : Int) (i : Nat) : selL xs ys least (i + 1) = selL xs ys least i ++ (if longB least (xs i) (ys i) then [(xs i, ys i)] else []) := by
 unfold selL
 rw [List.range_succ, List.filter_append, List.map_append]
 congr 1
 by_cases h : longB least (xs i) (ys i) = true
 · simp [h]
 · simp [h]
def flat : List (Int × Int) → List Value
 | [] => []
 | p :: l => .int .i64 p.1 :: .int .i64 p.2 :: flat l
theorem flat_append (a b : List (Int × Int)) : flat (a ++ b) = flat a ++ flat b := by
 induction a with
 | nil => rfl
 | cons p a ih => simp [flat, ih]
theorem flat_length (a : List (Int × Int)) : (flat a).length = 2 * a.length := by
 induction a with
 | nil => rfl
 | cons p a ih => simp [flat, ih]; omega
def RowC (n out : Nat) (l : List (Int × Int)) (w : World) : Prop := ∃ cs : Array Value, cs.size = 2 * n ∧ w.heap[out]? = some (.cells cs 30) ∧ cs.toList.take (2 * l.length) = flat l
section
variable {n out : Nat} {l : List (Int × Int)} {w : World} {x y : Int}
theorem RowC.row (h : RowC n out l w) : Row n out w := by obtain ⟨cs, h1, h2, _⟩ := h; exact ⟨cs, h1, h2⟩
theorem RowC.push (h : RowC n out l w) (ob : Obj) : RowC n out l { w with heap := w.heap.push ob } := by
 obtain ⟨cs, h1, h2, h3⟩ := h
 exact ⟨cs, h1, (push_old w ob (Array.getElem?_eq_some_iff.1 h2).1).trans h2, h3⟩
theorem take_two {α : Type} (L : List α) (m : Nat) (a b : α) (h : m + 2 ≤ L.length) : ((L.set m a).set (m + 1) b).take (m + 2) = L.take m ++ [a, b] := by
 apply List.ext_getElem?
 intro j
 rw [List.getElem?_take]
 by_cases h1 : j < m
 · rw [if_pos (by omega), List.getElem?_set_ne (by omega), List.getElem?_set_ne (by omega), List.getElem?_append_left (by rw [List.length_take]; omega), List.getElem?_take, if_pos h1]
 · by_cases h2 : j = m
   · subst h2
     rw [if_pos (by omega), List.getElem?_set_ne (by omega), List.getElem?_set_self (by omega), List.getElem?_append_right (by rw [List.length_take]; omega), List.length_take, show j - min j L.length = 0 by omega]
     rfl
   · by_cases h3 : j = m + 1
     · subst h3
       rw [if_pos (by omega), List.getElem?_set_self (by rw [List.length_set]; omega), List.getElem?_append_right (by rw [List.length_take]; omega), List.length_take, show m + 1 - min m L.length = 1 by omega]
       rfl
     · rw [if_neg (by omega), List.getElem?_eq_none (by simp [List.length_take]; omega)]
theorem RowC.aW (h : RowC n out l w) (hm : l.length < n) : RowC n out (l ++ [(x, y)]) (aW w out l.length x y) := by
 obtain ⟨cs, h1, h2, h3⟩ := h
 refine ⟨_, by simp [h1], heap_at _ _ (heap_at w _ h2), ?_⟩
 rw [flat_append, ← h3, List.length_append, List.length_singleton, show 2 * (l.length + 1) = l.length * 2 + 2 by omega]
 simp only [Array.toList_setIfInBounds]
 rw [take_two _ _ _ _ (by simp [h1]; omega), Nat.mul_comm 2]
 rfl
end
section
variable (Z : Zs Tp.prog) {n c : Nat} {p : Option Addr} {p5 : Value} {least : Int} {V0 off out N : Nat} {xs ys : Nat → Int} {u : World}
theorem fwdB (hn : n ≤ 9) (hsl : 0 < n → p = some ⟨V0, off, none⟩) (hV : 0 < n → V0 ≠ out) (hN : N ≤ u.heap.size) (hout : N ≤ out) :
   ∀ (r i : Nat) (T : Array Value) (v : World), n = i + r → TB n (.slice p n c) p5 least out (selL xs ys least i).length i T → (selL xs ys least i).length ≤ i → RowC n out (selL xs ys least i) v → Below N u v →
     (∀ j, j < n → v.cell? ⟨V0, off + 2 * j, none⟩ = some (.int .i64 (xs j)) ∧ v.cell? ⟨V0, off + 2 * j + 1, none⟩ = some (.int .i64 (ys j))) →
     Z.st T [.code Tp.lpB, .inLoop Tp.lpB, .inBlock 2, .code Tp.t6] v →
     ∃ T' v', T'.size = 63 ∧ evalT T' (.tmp 6) = .slice (some ⟨out, 0, none⟩) (selL xs ys least n).length n ∧ Z.st T' [.code .ret] v' ∧ RowC n out (selL xs ys least n) v' ∧ Below N u v'
 | 0, i, T, v, hr, hT, hm, hR, hB, hpr, h => by
   obtain rfl : n = i := by omega
   obtain ⟨T', z, g, h'⟩ := exitZ Z hT h
   exact ⟨T', v, z, g, h', hR, hB⟩
 | r + 1, i, T, v, hr, hT, hm, hR, hB, hpr, h => by
   have ih := fwdB hn hsl hV hN hout r (i + 1)
   have hi : i < n := by omega
   have e := hsl (by omega)
   have hVo := hV (by omega)
   subst e
   have hsz : N ≤ v.heap.size := Nat.le_trans hN hB.size
   obtain ⟨T1, hT1, h22, h28, h1⟩ := roundB Z hi hT (hpr i hi).1 (hpr i hi).2 h
   have hx1 : (pH v).cell? ⟨V0, off + 2 * i, none⟩ = some (.int .i64 (xs i)) := cell_push (hpr i hi).1
   have hy1 : (pH v).cell? ⟨V0, off + 2 * i + 1, none⟩ = some (.int .i64 (ys i)) := cell_push (hpr i hi).2
   have hB1 : Below N u (pH v) := hB.alloc hsz husk
   have hs := selL_succ xs ys least i
   by_cases hl : longB least (xs i) (ys i) = true
   · rw [if_pos hl] at hs
     have hl' : decide (IntKind.i64.wrap (ys i - xs i) ≥ least) = true := hl
     rw [hl'] at h28
     replace h1 := Z.run (offP_ok _) 1 h1
     simp only [evRun, evStep, h28] at h1
     obtain ⟨T2, hT2, h2⟩ := roundF Z (by omega) hT1 h22 hx1 hy1 (hR.push _).row h1
     obtain ⟨T3, hT3, h3⟩ := roundG Z hi hn hT2 h2
     have hlen : (selL xs ys least (i + 1)).length = (selL xs ys least i).length + 1 := by rw [hs]; simp
     have hB2 : Below N u (pC (pH v) (xs i) (ys i)) := hB1.alloc (Nat.le_trans hN hB1.size) _
     refine ih T3 _ (by omega) (by rw [hlen]; exact hT3) (by omega) ?_ ((hB2.setCell (p := ⟨out, _, none⟩) hout _).setCell (p := ⟨out, _, none⟩) hout _) (fun j hj => ⟨?_, ?_⟩) h3
     · rw [hs]; exact ((hR.push _).push _).aW (by omega)
     · exact cell_set (cell_set (cell_push (cell_push (hpr j hj).1)) hVo) hVo
     · exact cell_set (cell_set (cell_push (cell_push (hpr j hj).2)) hVo) hVo
   · rw [if_neg hl, List.append_nil] at hs
     have hl' : decide (IntKind.i64.wrap (ys i - xs i) ≥ least) = false := by simpa [longB] using hl
     rw [hl'] at h28
     replace h1 := Z.run (offP_ok _) 2 h1
     simp only [evRun, evStep, h28] at h1
     obtain ⟨T3, hT3, h3⟩ := roundG Z hi hn hT1 h1
     refine ih T3 _ (by omega) (by rw [hs]; exact hT3) (by rw [hs]; omega) ?_ hB1 (fun j hj => ⟨cell_push (hpr j hj).1, cell_push (hpr j hj).2⟩) h3
     rw [hs]; exact hR.push _
theorem fwdAll {T : Array Value} {v : World} {bl lo : Nat} (hsz : T.size = 63) (h5 : evalT T (.tmp 5) = .pointer (some ⟨bl, lo, none⟩)) (hc : v.cell? ⟨bl, lo, none⟩ = some (.int .i64 least)) (h7 : evalT T (.tmp 7) = .slice p n c) (hn : n ≤ 9)
   (hsl : 0 < n → p = some ⟨V0, off, none⟩) (hpr : ∀ j, j < n → v.cell? ⟨V0, off + 2 * j, none⟩ = some (.int .i64 (xs j)) ∧ v.cell? ⟨V0, off + 2 * j + 1, none⟩ = some (.int .i64 (ys j))) (hN : N ≤ u.heap.size) (hB : Below N u v) (h : Z.st T [.code Tp.tail] v) :
   ∃ T' v' out, T'.size = 63 ∧ evalT T' (.tmp 6) = .slice (some ⟨out, 0, none⟩) (selL xs ys least n).length n ∧ Z.st T' [.code .ret] v' ∧ RowC n out (selL xs ys least n) v' ∧ Below N u v' ∧ N ≤ out := by
 obtain ⟨T1, hT1, h20, h1⟩ := fwdA Z hsz h5 hc h7 hn h
 obtain ⟨T2, hT2, h2⟩ := fwdLoop Z hn hsl hpr n 0 T1 (by omega) hT1 h20 h1
 obtain ⟨T3, hT3, h3⟩ := seqD Z hn hT2 h2
 have hNv : N ≤ v.heap.size := Nat.le_trans hN hB.size
 have hb : ∀ k, Below N u (husks v k) := by
   intro k
   induction k with
   | zero => rw [husks_zero]; exact hB
   | succ k ih => rw [← husks_push]; exact ih.alloc (Nat.le_trans hN ih.size) _
 have hout : N ≤ (husks v (5 + 3 * n)).heap.size := Nat.le_trans hN (hb _).size
 have hV : 0 < n → V0 ≠ (husks v (5 + 3 * n)).heap.size := fun hpos e => by
   have := lt_of_cell (hpr 0 hpos).1
   rw [husks_size] at e
   simp only at this
   omega
 obtain ⟨T', v', z, g, h', hR, hB'⟩ := fwdB Z (p := p) (V0 := V0) (off := off) (xs := xs) (ys := ys) (N := N) (u := u) hn hsl hV hN hout n 0 T3 _ (by omega) (by exact hT3) (by simp [selL]) ⟨_, Array.size_replicate .., Array.getElem?_push_size, rfl⟩ ((hb _).alloc hout _) (fun j hj => ⟨cell_push (husks_cell' (hpr j hj).1), cell_push (husks_cell' (hpr j hj).2)⟩) h3
 exact ⟨T', v', _, z, g, h', hR, hB', hout⟩
end
end Go.Proofs.Ytcoppnbjpncdcaa.Q
end
section
set_option linter.unusedVariables false
set_option linter.unusedSimpArgs false
namespace Go.Proofs.Ytcoppnbjpncdcaa.Q
open Go Go.Conc Go.RowKit Go.Proofs.Ytcoppnbjpncdcaa.Sim
def stZ (S : Program) (cs : List Frame) (m₀ : Machine) : Zs S := ⟨cs, fun T k v => Steps S m₀ (lone (SF T k) cs v), fun {T k v T' k' v' es} h hs => Steps.trans h (Steps.head (step_of_go (fr := SF T k) (fr1 := SF T' k') (cs1 := cs) hs) (Steps.refl _ _))⟩
section
variable {S : Program} {cs : List Frame} {m₀ : Machine} {T : Array Value} {ops : Array Oper} {i : Nat} {is : List Nat} {k : List Item} {v : World} {o : Oper}
theorem stZ_call {f : FuncId} {fn : Func} {c : Code} {xs : Array Operand} {ats : Array TypeId} {R : Value → World → Prop} (h : (stZ S cs m₀).st T (.inRegion ops (i :: is) :: k) v) (ho : ops[i]? = some o) (hw : Region.wanted o (yieldedT ops T) = true)
   (hop : o.op = .call { callee := .value (.func f), args := xs, argTypes := ats }) (hf : S.funcs[f]? = some fn) (hname : (fn.name == "runtime.NumGoroutine") = false) (hb : fn.body = some c)
   (hC : Calls S f (xs.map (evalT T)) v fun e w' => ∃ x, e = .returned x ∧ R x w') : ∃ x w', R x w' ∧ (stZ S cs m₀).st (putT T o.dst x) (.inRegion ops is :: k) w' := by
 have hb' : fn.body.isNone = false := by rw [hb]; rfl
 have h1 := stepG_enter (P := S) (main := true) (b := base 38) (a := ⟨T, []⟩) (k := k) (cs := cs) (w := v) (rest := is) ho (wantedA hw) (by simp [base]) (run_call_body (w := v) hop hf hname hb')
 rw [evalA] at h1
 obtain ⟨e, w', fr, ⟨x, rfl, hR⟩, hcome, hfn, hleave⟩ := hC (SF T (.inRegion ops (i :: is) :: k) :: cs)
 refine ⟨x, w', hR, ?_⟩
 have h2 : Steps S m₀ (lone (Frame.enter S f (xs.map (evalT T)) .normal) (SF T (.inRegion ops (i :: is) :: k) :: cs) v) := Steps.trans h (Steps.head (step_of_go (fr := SF T (.inRegion ops (i :: is) :: k)) h1) (Steps.refl _ _))
 have h3 : Steps S m₀ (lone fr (SF T (.inRegion ops (i :: is) :: k) :: cs) w') := Steps.trans h2 hcome
 have h4 := step_leave_returned (cs := cs) (c := SF T (.inRegion ops (i :: is) :: k)) hleave
 have e : (SF T (.inRegion ops (i :: is) :: k)).finish x = SF (putT T o.dst x) (.inRegion ops is :: k) := by
   show ((base 38).at ⟨T, []⟩ (.inRegion ops (i :: is) :: k)).finish x = _
   rw [Frame.finish_at, ho]
   show (base 38).at (Act.put ⟨T, []⟩ o.dst x) _ = _
   rw [putA]; rfl
 rw [e] at h4
 exact Steps.trans h3 (Steps.head h4 (Steps.refl _ _))
end
noncomputable def opsP0 : Array Oper := opsOf (Tp.fstC Tp.bodyP)
noncomputable def opsP1 : Array Oper := opsOf (Tp.fstC (Tp.sndC Tp.bodyP))
theorem opsP0_size : opsP0.size = 3 := by kernel_rfl
theorem opsP1_size : opsP1.size = 4 := by kernel_rfl
theorem body_eq : Tp.body = .seq (.region 0 opsP0 false) (.seq (.region 1 opsP1 false) Tp.tail) := by kernel_rfl
section
variable {w : World} {ρ : Operand → Value} {o : Oper}
theorem run_bx30S {x : Operand} {a b : Value} (hop : o.op = .box 30 x) (hx : ρ x = .agg #[a, b]) : (execOp ρ o).run Tp.prog w = .ok (.value (.pointer (some ⟨w.heap.size, 0, none⟩))) { w with heap := w.heap.push (.cells #[a, b] 30) } := by
 unfold execOp
 simp only [hop, hx]
 simp [go_sem, Go.newVar, Go.newRow, Value.cells]
theorem run_bx3S {x : Operand} {a : Int} (hop : o.op = .box 3 x) (hx : ρ x = .int .i64 a) : (execOp ρ o).run Tp.prog w = .ok (.value (.pointer (some ⟨w.heap.size, 0, none⟩))) { w with heap := w.heap.push (.cells #[.int .i64 a] 3) } := by
 unfold execOp
 simp only [hop, hx]
 simp [go_sem, Go.newVar, Go.newRow, Value.cells]
end
def boxed (w : World) (a b least : Int) : World := { w with heap := (w.heap.push (.cells #[.int .i64 a, .int .i64 b] 30)).push (.cells #[.int .i64 least] 3) }
set_option maxHeartbeats 1000000 in
theorem freeCalls {A0 : Option Addr} {n0 c0 : Nat} {a b least : Int} {w : World} {Q : Nat → (Nat → Int) → (Nat → Int) → Prop}
   (hM : Calls Tp.prog 48 #[.agg #[.int .i64 a, .int .i64 b], .slice A0 n0 c0] (boxed w a b least) fun e w3 => ∃ x, e = .returned x ∧ ∃ p n c xs ys V0 off, x = .slice p n c ∧ n ≤ 9 ∧ (0 < n → p = some ⟨V0, off, none⟩) ∧
     (∀ j, j < n → w3.cell? ⟨V0, off + 2 * j, none⟩ = some (.int .i64 (xs j)) ∧ w3.cell? ⟨V0, off + 2 * j + 1, none⟩ = some (.int .i64 (ys j))) ∧ Below (boxed w a b least).heap.size (boxed w a b least) w3 ∧ Q n xs ys) :
   Calls Tp.prog 38 #[.slice A0 n0 c0, .agg #[.int .i64 a, .int .i64 b], .int .i64 least] w fun e w' => ∃ out n xs ys, e = .returned (.slice (some ⟨out, 0, none⟩) (selL xs ys least n).length n) ∧ RowC n out (selL xs ys least n) w' ∧ Below w.heap.size w w' ∧ w.heap.size ≤ out ∧ n ≤ 9 ∧ Q n xs ys := by
 intro cs
 have hent := enter_at (P := Tp.prog) (f := 38) (fn := Tp.f38) (c := Tp.body) #[.slice A0 n0 c0, .agg #[.int .i64 a, .int .i64 b], .int .i64 least] Tp.func38 rfl
 rw [hent]
 obtain ⟨T0, hT0⟩ : ∃ T0 : Array Value, T0 = #[.slice A0 n0 c0, .agg #[.int .i64 a, .int .i64 b], .int .i64 least] ++ Array.replicate (Tp.f38.ntmps - (#[Value.slice A0 n0 c0, .agg #[.int .i64 a, .int .i64 b], .int .i64 least] : Array Value).size) undef := ⟨_, rfl⟩
 rw [← hT0]
 have hsz : T0.size = 63 := by rw [hT0]; exact size_slots _ _ (by simp [Tp.f38])
 have e0 : evalT T0 (.tmp 0) = .slice A0 n0 c0 := by rw [hT0]; exact evalT_slots _ _ 0 (by simp)
 have e1 : evalT T0 (.tmp 1) = .agg #[.int .i64 a, .int .i64 b] := by rw [hT0]; exact evalT_slots _ _ 1 (by simp)
 have e2 : evalT T0 (.tmp 2) = .int .i64 least := by rw [hT0]; exact evalT_slots _ _ 2 (by simp)
 clear hT0 hent
 obtain ⟨m₀, hm₀⟩ : ∃ m₀, m₀ = lone ((base 38).at { tmps := T0, defers := [] } [.code Tp.body]) cs w := ⟨_, rfl⟩
 rw [← hm₀]
 have h : (stZ Tp.prog cs m₀).st T0 [.code Tp.body] w := by rw [hm₀]; exact Steps.refl _ _
 clear hm₀
 obtain ⟨Z, hZ⟩ : ∃ Z, Z = stZ Tp.prog cs m₀ := ⟨_, rfl⟩
 rw [← hZ] at h
 rw [body_eq] at h
 replace h := Z.run (offP_ok _) 2 h
 simp only [evRun, evStep, opsP0_size, List.range, List.range.loop] at h
 replace h := Z.val h (o := opsP0[0]'(by rw [opsP0_size]; decide)) rfl rfl (run_bx30S (x := .tmp 1) rfl e1)
 rw [show (opsP0[0]'(by rw [opsP0_size]; decide)).dst = some 4 from rfl] at h
 have q4 : ∀ s : Nat, s ≠ 4 → evalT (putT T0 (some 4) (.pointer (some ⟨w.heap.size, 0, none⟩))) (.tmp s) = evalT T0 (.tmp s) := fun s hs => ev_ne hsz (by decide) hs
 have g4 := ev_eq (t := 4) (v := .pointer (some ⟨w.heap.size, 0, none⟩)) hsz (by decide)
 have z1 : (putT T0 (some 4) (.pointer (some ⟨w.heap.size, 0, none⟩))).size = 63 := by rw [size_putT]; exact hsz
 have k0 := (q4 0 (by decide)).trans e0
 have k2 := (q4 2 (by decide)).trans e2
 generalize putT T0 (some 4) (.pointer (some ⟨w.heap.size, 0, none⟩)) = T1 at *
 replace h := Z.val h (v' := boxed w a b least) (o := opsP0[1]'(by rw [opsP0_size]; decide)) (x := .pointer (some ⟨w.heap.size + 1, 0, none⟩)) rfl rfl (by
   have := run_bx3S (w := { w with heap := w.heap.push (.cells #[.int .i64 a, .int .i64 b] 30) }) (ρ := evalT T1) (o := opsP0[1]'(by rw [opsP0_size]; decide)) (x := .tmp 2) rfl k2
   rw [this]; simp [boxed])
 rw [show (opsP0[1]'(by rw [opsP0_size]; decide)).dst = some 5 from rfl] at h
 have q5 : ∀ s : Nat, s ≠ 5 → evalT (putT T1 (some 5) (.pointer (some ⟨w.heap.size + 1, 0, none⟩))) (.tmp s) = evalT T1 (.tmp s) := fun s hs => ev_ne z1 (by decide) hs
 have g5 := ev_eq (t := 5) (v := .pointer (some ⟨w.heap.size + 1, 0, none⟩)) z1 (by decide)
 have z2 : (putT T1 (some 5) (.pointer (some ⟨w.heap.size + 1, 0, none⟩))).size = 63 := by rw [size_putT]; exact z1
 have l0 := (q5 0 (by decide)).trans k0
 have l4 := (q5 4 (by decide)).trans g4
 generalize putT T1 (some 5) (.pointer (some ⟨w.heap.size + 1, 0, none⟩)) = T2 at *
 replace h := Z.pv h (o := opsP0[2]'(by rw [opsP0_size]; decide)) (x := .slice none 0 0) rfl rfl (by rw [show (opsP0[2]'(by rw [opsP0_size]; decide)).op = .assign (.const (.slice none 0 0)) from rfl]; simp [evPure, evalT_const])
 rw [show (opsP0[2]'(by rw [opsP0_size]; decide)).dst = some 6 from rfl] at h
 have q6 : ∀ s : Nat, s ≠ 6 → evalT (putT T2 (some 6) (.slice none 0 0)) (.tmp s) = evalT T2 (.tmp s) := fun s hs => ev_ne z2 (by decide) hs
 have z3 : (putT T2 (some 6) (.slice none 0 0)).size = 63 := by rw [size_putT]; exact z2
 have m0 := (q6 0 (by decide)).trans l0
 have m4 := (q6 4 (by decide)).trans l4
 have m5 := (q6 5 (by decide)).trans g5
 generalize putT T2 (some 6) (.slice none 0 0) = T3 at *
 replace h := Z.run (offP_ok _) 3 h
 simp only [evRun, evStep, opsP1_size, List.range, List.range.loop] at h
 have hbx : (boxed w a b least).heap[w.heap.size]? = some (.cells #[.int .i64 a, .int .i64 b] 30) := by
   show ((w.heap.push _).push _)[w.heap.size]? = _
   rw [Array.getElem?_push, if_neg (by simp)]
   exact Array.getElem?_push_size
 have hbl : (boxed w a b least).heap[w.heap.size + 1]? = some (.cells #[.int .i64 least] 3) := by
   show ((w.heap.push _).push _)[w.heap.size + 1]? = _
   have : w.heap.size + 1 = (w.heap.push (Obj.cells #[Value.int .i64 a, .int .i64 b] 30)).size := by simp
   rw [this]
   exact Array.getElem?_push_size
 replace h := Z.val h (v' := boxed w a b least) (o := opsP1[0]'(by rw [opsP1_size]; decide)) (x := .agg #[.int .i64 a, .int .i64 b]) rfl rfl (run_ld30S (x := .tmp 4) rfl m4 (by unfold World.cell?; rw [hbx]; rfl) (by unfold World.cell?; rw [hbx]; rfl))
 rw [show (opsP1[0]'(by rw [opsP1_size]; decide)).dst = some 15 from rfl] at h
 have q15 : ∀ s : Nat, s ≠ 15 → evalT (putT T3 (some 15) (.agg #[.int .i64 a, .int .i64 b])) (.tmp s) = evalT T3 (.tmp s) := fun s hs => ev_ne z3 (by decide) hs
 have g15 := ev_eq (t := 15) (v := .agg #[.int .i64 a, .int .i64 b]) z3 (by decide)
 have z4 : (putT T3 (some 15) (.agg #[.int .i64 a, .int .i64 b])).size = 63 := by rw [size_putT]; exact z3
 have n0' := (q15 0 (by decide)).trans m0
 have n5 := (q15 5 (by decide)).trans m5
 generalize putT T3 (some 15) (.agg #[.int .i64 a, .int .i64 b]) = T4 at *
 replace h := Z.pv h (o := opsP1[1]'(by rw [opsP1_size]; decide)) (x := .slice A0 n0 c0) rfl rfl (by rw [show (opsP1[1]'(by rw [opsP1_size]; decide)).op = .move (.tmp 0) from rfl]; simp [evPure, n0'])
 rw [show (opsP1[1]'(by rw [opsP1_size]; decide)).dst = some 16 from rfl] at h
 have q16 : ∀ s : Nat, s ≠ 16 → evalT (putT T4 (some 16) (.slice A0 n0 c0)) (.tmp s) = evalT T4 (.tmp s) := fun s hs => ev_ne z4 (by decide) hs
 have g16 := ev_eq (t := 16) (v := .slice A0 n0 c0) z4 (by decide)
 have z5 : (putT T4 (some 16) (.slice A0 n0 c0)).size = 63 := by rw [size_putT]; exact z4
 have o15 := (q16 15 (by decide)).trans g15
 have o5 := (q16 5 (by decide)).trans n5
 generalize putT T4 (some 16) (.slice A0 n0 c0) = T5 at *
 subst hZ
 have hmap : (#[Operand.tmp 15, .tmp 16] : Array Operand).map (evalT T5) = #[.agg #[.int .i64 a, .int .i64 b], .slice A0 n0 c0] := by simp [o15, g16]
 rw [← hmap] at hM
 obtain ⟨x, w3, hx, h⟩ := stZ_call (o := opsP1[2]'(by rw [opsP1_size]; decide)) (xs := #[.tmp 15, .tmp 16]) (ats := #[30, 28]) (f := 48) (fn := Try.f48) (c := Try.f48.body.getD .skip) (R := fun x w3 => ∃ p n c xs ys V0 off, x = .slice p n c ∧ n ≤ 9 ∧ (0 < n → p = some ⟨V0, off, none⟩) ∧
     (∀ j, j < n → w3.cell? ⟨V0, off + 2 * j, none⟩ = some (.int .i64 (xs j)) ∧ w3.cell? ⟨V0, off + 2 * j + 1, none⟩ = some (.int .i64 (ys j))) ∧ Below (boxed w a b least).heap.size (boxed w a b least) w3 ∧ Q n xs ys) h rfl rfl rfl Tp.func48 (by kernel_rfl) (by kernel_rfl) hM
 obtain ⟨p, n, c, xs, ys, V0, off, rfl, hn, hsl, hpr, hB, hQ⟩ := hx
 obtain ⟨Z, hZ⟩ : ∃ Z, Z = stZ Tp.prog cs m₀ := ⟨_, rfl⟩
 rw [← hZ] at h
 rw [show (opsP1[2]'(by rw [opsP1_size]; decide)).dst = some 17 from rfl] at h
 have q17 : ∀ s : Nat, s ≠ 17 → evalT (putT T5 (some 17) (.slice p n c)) (.tmp s) = evalT T5 (.tmp s) := fun s hs => ev_ne z5 (by decide) hs
 have g17 := ev_eq (t := 17) (v := .slice p n c) z5 (by decide)
 have z6 : (putT T5 (some 17) (.slice p n c)).size = 63 := by rw [size_putT]; exact z5
 have p5 := (q17 5 (by decide)).trans o5
 generalize putT T5 (some 17) (.slice p n c) = T6 at *
 replace h := Z.pv h (o := opsP1[3]'(by rw [opsP1_size]; decide)) (x := .slice p n c) rfl rfl (by rw [show (opsP1[3]'(by rw [opsP1_size]; decide)).op = .assign (.tmp 17) from rfl]; simp [evPure, g17])
 rw [show (opsP1[3]'(by rw [opsP1_size]; decide)).dst = some 7 from rfl] at h
 have q7 : ∀ s : Nat, s ≠ 7 → evalT (putT T6 (some 7) (.slice p n c)) (.tmp s) = evalT T6 (.tmp s) := fun s hs => ev_ne z6 (by decide) hs
 have g7 := ev_eq (t := 7) (v := .slice p n c) z6 (by decide)
 have z7 : (putT T6 (some 7) (.slice p n c)).size = 63 := by rw [size_putT]; exact z6
 have r5 := (q7 5 (by decide)).trans p5
 generalize putT T6 (some 7) (.slice p n c) = T7 at *
 replace h := Z.run (offP_ok _) 1 h
 simp only [evRun, evStep] at h
 have hbs : (boxed w a b least).heap.size = w.heap.size + 2 := by simp [boxed]
 have hc3 : w3.cell? ⟨w.heap.size + 1, 0, none⟩ = some (.int .i64 least) := by
   rw [hB.cell (p := ⟨w.heap.size + 1, 0, none⟩) (by rw [hbs]; exact Nat.lt_succ_self _)]
   unfold World.cell?; rw [hbl]; rfl
 have hB0 : Below w.heap.size w w3 := (((Below.refl w.heap.size w).alloc (Nat.le_refl _) _).alloc (by simp) _).trans (hB.mono (by rw [hbs]; omega))
 obtain ⟨T', v', out, z, g6, h, hR, hB', hout⟩ := fwdAll Z (least := least) (N := w.heap.size) (u := w) z7 r5 hc3 g7 hn hsl hpr (Nat.le_refl _) hB0 h
 subst hZ
 have hret : Steps Tp.prog m₀ (lone (retF T') cs v') := Steps.trans h (Steps.head (step_of_go (fr := SF T' [.code .ret]) (es := #[]) stepG_ret') (Steps.refl _ _))
 refine ⟨.returned (.slice (some ⟨out, 0, none⟩) (selL xs ys least n).length n), v', retF T', ⟨out, n, xs, ys, rfl, hR, hB', hout, hn, hQ⟩, hret, rfl, rfl, rfl, rfl, Tp.f38, Tp.func38, ?_⟩
 show (results Tp.f38 T').run Tp.prog v' = _
 unfold results
 rw [show Tp.f38.results = #[.tmp 6] from rfl]
 have : T'.getD 6 undef = .slice (some ⟨out, 0, none⟩) (selL xs ys least n).length n := g6
 simp [go_sem] at this ⊢
 exact this
end Go.Proofs.Ytcoppnbjpncdcaa.Q
end
