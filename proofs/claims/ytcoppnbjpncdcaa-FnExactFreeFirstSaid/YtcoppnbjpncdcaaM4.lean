/-
  Part 4 of the proof (merged out of the texts of wip: QSeq4, QEnd2, QEnd3, QEnd4, QEnd5, QEnd6, QEnd7, QEnd8, QHole, Close, WWords, WLast, WTab, WApart, WKept, WShare, WN, WRepsOne, WMore, PAllx0, PAllx2).
-/
import Derived.Test.YtcoppnbjpncdcaaM3
section
set_option linter.unusedVariables false
set_option linter.unusedSimpArgs false
namespace Go.Proofs.Ytcoppnbjpncdcaa.Q
open Go Go.Conc Go.Proofs.Ytcoppnbjpncdcaa.Sim
section
variable {Post : Value → World → Prop} {l : List Frame} {x₀ : Frame × List Frame × World} {T : Array Value} {k : List Item} {v : World}
theorem On.pv {ops : Array Oper} {i : Nat} {is : List Nat} {o : Oper} {x : Value} (h : On Tp.prog Post l x₀ T (.inRegion ops (i :: is) :: k) v) (ho : ops[i]? = some o) (hw : Region.wanted o (yieldedT ops T) = true) (hv : evPure (offP Tp.prog) (evalT T) o.op = some x) :
   On Tp.prog Post l x₀ (putT T o.dst x) (.inRegion ops is :: k) v := by
 refine h.step (evStep_go (by simp [base]) (offP_ok _) ?_ v)
 simp only [evStep, ho, hw, if_true, hv]
def Pair (v : World) (p : Option Addr) (j : Nat) (x y : Int) : Prop := ∃ ad b off, p = some ad ∧ ad.add (j * 2) = ⟨b, off, none⟩ ∧ v.cell? ⟨b, off, none⟩ = some (.int .i64 x) ∧ v.cell? ⟨b, off + 1, none⟩ = some (.int .i64 y)
theorem wrap_succ {i n : Nat} (h : i < n) (hn : n ≤ 9) : IntKind.i64.wrap ((i : Int) + 1) = ((i + 1 : Nat) : Int) := by
 rw [IntKind.wrap_i64]
 omega
variable {n c : Nat} {p : Option Addr} {p5 : Value} {least : Int}
theorem exitA (hT : TA n (.slice p n c) p5 least T) (h20 : evalT T (.tmp 20) = .int .i64 n) (h : On Tp.prog Post l x₀ T [.code Tp.lpA, .inLoop Tp.lpA, .inBlock 0, .code Tp.t4] v) :
   ∃ T', TA n (.slice p n c) p5 least T' ∧ On Tp.prog Post l x₀ T' [.code Tp.t4] v := by
 replace h := On.run (offP_ok _) 2 h
 simp only [evRun, evStep, Tp.lpA, show Tp.opsT.size = 1 from rfl, List.range, List.range.loop] at h
 replace h := h.pv (o := Tp.op 21 (.binOp .lss 3 (.tmp 20) (.tmp 17) 3)) (x := .bool false) rfl rfl (by simp [Tp.op, evPure, h20, hT.s17, intBin])
 rw [show (Tp.op 21 (.binOp .lss 3 (.tmp 20) (.tmp 17) 3)).dst = some 21 from rfl] at h
 have g21 : evalT (putT T (some 21) (.bool false)) (.tmp 21) = .bool false := ev_eq hT.size (by decide)
 have hT1 := hT.put (t := 21) (by decide) (by decide) (.bool false)
 generalize putT T (some 21) (.bool false) = T1 at *
 replace h := On.run (offP_ok _) 4 h
 simp only [evRun, evStep, g21, exitTo, beq_self_eq_true, ↓reduceIte] at h
 exact ⟨T1, hT1, h⟩
theorem roundA (hsw : SW v) {m i : Nat} (hi : i < n) (hn : n ≤ 9) (hT : TA n (.slice p n c) p5 least T) (h20 : evalT T (.tmp 20) = .int .i64 i) (h : On Tp.prog Post l x₀ T [.code Tp.lpA, .inLoop Tp.lpA, .inBlock 0, .code Tp.t4] (husks v m)) :
   ∃ T' x y, TA n (.slice p n c) p5 least T' ∧ evalT T' (.tmp 20) = .int .i64 (i + 1 : Nat) ∧ Pair v p i x y ∧ On Tp.prog Post l x₀ T' [.code Tp.lpA, .inLoop Tp.lpA, .inBlock 0, .code Tp.t4] (husks v (m + 3)) := by
 have hK : On Tp.prog Post l x₀ T (.code Tp.lpA :: [.inLoop Tp.lpA, .inBlock 0, .code Tp.t4]) (husks v m) := h
 clear h
 obtain ⟨K, hKe⟩ : ∃ K : List Item, K = [.inLoop Tp.lpA, .inBlock 0, .code Tp.t4] := ⟨_, rfl⟩
 rw [← hKe] at hK
 have h := On.run (offP_ok _) 2 hK
 simp only [evRun, evStep, Tp.lpA, show Tp.opsT.size = 1 from rfl, List.range, List.range.loop] at h
 replace h := h.pv (o := Tp.op 21 (.binOp .lss 3 (.tmp 20) (.tmp 17) 3)) (x := .bool true) rfl rfl (by simp [Tp.op, evPure, h20, hT.s17, intBin, hi])
 rw [show (Tp.op 21 (.binOp .lss 3 (.tmp 20) (.tmp 17) 3)).dst = some 21 from rfl] at h
 have g21 : evalT (putT T (some 21) (.bool true)) (.tmp 21) = .bool true := ev_eq hT.size (by decide)
 have hT1 := hT.put (t := 21) (by decide) (by decide) (.bool true)
 have a20 := (ev_ne (v := .bool true) (s := 20) (t := 21) hT.size (by decide) (by decide)).trans h20
 generalize putT T (some 21) (.bool true) = T1 at *
 replace h := On.run (offP_ok _) 5 h
 simp only [evRun, evStep, g21, show Tp.opsC.size = 11 from rfl, List.range, List.range.loop] at h
 have hsw' := SW.husks hsw m
 obtain ⟨a, v1, es, hr, hval, _⟩ := h.oper Tp.twins hsw' (o := Tp.op 22 (.indexAddr 28 (.tmp 7) (.tmp 20))) rfl (by kernel_rfl) rfl
 obtain ⟨ad, had, rfl, rfl⟩ := inv_ix (x := .tmp 7) (y := .tmp 20) rfl hT1.s7 a20 hi (ok_run hr)
 replace h := hval _ rfl
 rw [show (Tp.op 22 (.indexAddr 28 (.tmp 7) (.tmp 20))).dst = some 22 from rfl] at h
 have g22 := ev_eq (t := 22) (v := .pointer (some (ad.add (i * 2)))) hT1.size (by decide)
 have hT2 := hT1.put (t := 22) (by decide) (by decide) (.pointer (some (ad.add (i * 2))))
 have b20 := (ev_ne (v := .pointer (some (ad.add (i * 2)))) (s := 20) (t := 22) hT1.size (by decide) (by decide)).trans a20
 generalize putT T1 (some 22) (.pointer (some (ad.add (i * 2)))) = T2 at *
 clear hval hr
 replace h := h.pv (o := Tp.op 23 (.fieldAddr 30 (.tmp 22) 0)) (x := .pointer (some (ad.add (i * 2)))) rfl rfl (by simp [Tp.op, evPure, g22, offT_0, Addr.add])
 rw [show (Tp.op 23 (.fieldAddr 30 (.tmp 22) 0)).dst = some 23 from rfl] at h
 have g23 := ev_eq (t := 23) (v := .pointer (some (ad.add (i * 2)))) hT2.size (by decide)
 have hT3 := hT2.put (t := 23) (by decide) (by decide) (.pointer (some (ad.add (i * 2))))
 have c20 := (ev_ne (v := .pointer (some (ad.add (i * 2)))) (s := 20) (t := 23) hT2.size (by decide) (by decide)).trans b20
 have c22 := (ev_ne (v := .pointer (some (ad.add (i * 2)))) (s := 22) (t := 23) hT2.size (by decide) (by decide)).trans g22
 generalize putT T2 (some 23) (.pointer (some (ad.add (i * 2)))) = T3 at *
 obtain ⟨a, v1, es, hr, hval, _⟩ := h.oper Tp.twins hsw' (o := Tp.op 24 (.load 3 (.tmp 23))) rfl (by kernel_rfl) rfl
 obtain ⟨b, off, z, h23, hc1, rfl, rfl⟩ := inv_ld3 hsw' rfl (ok_run hr)
 rw [g23] at h23
 replace h := hval _ rfl
 rw [show (Tp.op 24 (.load 3 (.tmp 23))).dst = some 24 from rfl] at h
 have g24 := ev_eq (t := 24) (v := z) hT3.size (by decide)
 have hT4 := hT3.put (t := 24) (by decide) (by decide) z
 have d20 := (ev_ne (v := z) (s := 20) (t := 24) hT3.size (by decide) (by decide)).trans c20
 have d22 := (ev_ne (v := z) (s := 22) (t := 24) hT3.size (by decide) (by decide)).trans c22
 generalize putT T3 (some 24) z = T4 at *
 clear hval hr
 have had2 : ad.add (i * 2) = ⟨b, off, none⟩ := by simpa using h23
 rw [had2] at d22
 replace h := h.pv (o := Tp.op 25 (.fieldAddr 30 (.tmp 22) 1)) (x := .pointer (some ⟨b, off + 1, none⟩)) rfl rfl (by simp [Tp.op, evPure, d22, offT_1, Addr.add])
 rw [show (Tp.op 25 (.fieldAddr 30 (.tmp 22) 1)).dst = some 25 from rfl] at h
 have g25 := ev_eq (t := 25) (v := .pointer (some ⟨b, off + 1, none⟩)) hT4.size (by decide)
 have hT5 := hT4.put (t := 25) (by decide) (by decide) (.pointer (some ⟨b, off + 1, none⟩))
 have e20 := (ev_ne (v := .pointer (some ⟨b, off + 1, none⟩)) (s := 20) (t := 25) hT4.size (by decide) (by decide)).trans d20
 have e24 := (ev_ne (v := .pointer (some ⟨b, off + 1, none⟩)) (s := 24) (t := 25) hT4.size (by decide) (by decide)).trans g24
 generalize putT T4 (some 25) (.pointer (some ⟨b, off + 1, none⟩)) = T5 at *
 obtain ⟨a, v1, es, hr, hval, _⟩ := h.oper Tp.twins hsw' (o := Tp.op 26 (.load 3 (.tmp 25))) rfl (by kernel_rfl) rfl
 obtain ⟨b2, off2, z2, h25, hc2, rfl, rfl⟩ := inv_ld3 hsw' rfl (ok_run hr)
 rw [g25] at h25
 simp only [Value.pointer.injEq, Option.some.injEq, Addr.mk.injEq, and_true] at h25
 obtain ⟨rfl, rfl⟩ := h25
 replace h := hval _ rfl
 rw [show (Tp.op 26 (.load 3 (.tmp 25))).dst = some 26 from rfl] at h
 have g26 := ev_eq (t := 26) (v := z2) hT5.size (by decide)
 have hT6 := hT5.put (t := 26) (by decide) (by decide) z2
 have f20 := (ev_ne (v := z2) (s := 20) (t := 26) hT5.size (by decide) (by decide)).trans e20
 have f24 := (ev_ne (v := z2) (s := 24) (t := 26) hT5.size (by decide) (by decide)).trans e24
 generalize putT T5 (some 26) z2 = T6 at *
 clear hval hr
 obtain ⟨a, v1, es, hr, hval, _⟩ := h.oper Tp.twins hsw' (o := Tp.op 27 (.binOp .lss 3 (.tmp 24) Tp.i0 3)) rfl (by kernel_rfl) rfl
 obtain ⟨x, hx, rfl, rfl⟩ := inv_lss0 rfl (fun _ => rfl) (ok_run hr)
 rw [f24] at hx
 subst hx
 replace h := hval _ rfl
 rw [show (Tp.op 27 (.binOp .lss 3 (.tmp 24) Tp.i0 3)).dst = some 27 from rfl] at h
 have hT7 := hT6.put (t := 27) (by decide) (by decide) (.bool (decide (x < 0)))
 have i20 := (ev_ne (v := .bool (decide (x < 0))) (s := 20) (t := 27) hT6.size (by decide) (by decide)).trans f20
 have i26 := (ev_ne (v := .bool (decide (x < 0))) (s := 26) (t := 27) hT6.size (by decide) (by decide)).trans g26
 generalize putT T6 (some 27) (.bool (decide (x < 0))) = T7 at *
 clear hval hr
 obtain ⟨a, v1, es, hr, hval, _⟩ := h.oper Tp.twins hsw' (o := Tp.op 27 (.binOp .lss 3 (.tmp 26) Tp.i0 3)) rfl (by kernel_rfl) rfl
 obtain ⟨y, hy, rfl, rfl⟩ := inv_lss0 rfl (fun _ => rfl) (ok_run hr)
 rw [i26] at hy
 subst hy
 replace h := hval _ rfl
 rw [show (Tp.op 27 (.binOp .lss 3 (.tmp 26) Tp.i0 3)).dst = some 27 from rfl] at h
 have hT8 := hT7.put (t := 27) (by decide) (by decide) (.bool (decide (y < 0)))
 have j20 := (ev_ne (v := .bool (decide (y < 0))) (s := 20) (t := 27) hT7.size (by decide) (by decide)).trans i20
 generalize putT T7 (some 27) (.bool (decide (y < 0))) = T8 at *
 clear hval hr
 obtain ⟨x1, h⟩ := h.husk rfl
 have hT9 := hT8.put (t := 19) (by decide) (by decide) x1
 have k20 := (ev_ne (v := x1) (s := 20) (t := 19) hT8.size (by decide) (by decide)).trans j20
 generalize putT T8 (some 19) x1 = T9 at *
 obtain ⟨x2, h⟩ := h.husk rfl
 have hT10 := hT9.put (t := 19) (by decide) (by decide) x2
 have l20 := (ev_ne (v := x2) (s := 20) (t := 19) hT9.size (by decide) (by decide)).trans k20
 generalize putT T9 (some 19) x2 = T10 at *
 obtain ⟨x3, h⟩ := h.husk rfl
 have hT11 := hT10.put (t := 19) (by decide) (by decide) x3
 have m20 := (ev_ne (v := x3) (s := 20) (t := 19) hT10.size (by decide) (by decide)).trans l20
 generalize putT T10 (some 19) x3 = T11 at *
 replace h := h.pv (o := Tp.op 20 (.binOp .add 3 (.tmp 20) Tp.i1 3)) (x := .int .i64 (i + 1 : Nat)) rfl rfl (by simp [Tp.op, evPure, m20, Tp.i1, evalT_const, intBin, wrap_succ hi hn])
 rw [show (Tp.op 20 (.binOp .add 3 (.tmp 20) Tp.i1 3)).dst = some 20 from rfl] at h
 have n20 := ev_eq (t := 20) (v := .int .i64 (i + 1 : Nat)) hT11.size (by decide)
 have hT12 := hT11.put (t := 20) (by decide) (by decide) (.int .i64 (i + 1 : Nat))
 generalize putT T11 (some 20) (.int .i64 (i + 1 : Nat)) = T12 at *
 replace h := On.run (offP_ok _) 1 h
 simp only [evRun, evStep] at h
 subst hKe
 exact ⟨T12, x, y, hT12, n20, ⟨ad, b, off, had, had2, husks_cell hc1, husks_cell hc2⟩, h.inLoop⟩
theorem loopA (hsw : SW v) (hn : n ≤ 9) : ∀ (r i : Nat) (T : Array Value), n = i + r → TA n (.slice p n c) p5 least T → evalT T (.tmp 20) = .int .i64 i → On Tp.prog Post l x₀ T [.code Tp.lpA, .inLoop Tp.lpA, .inBlock 0, .code Tp.t4] (husks v (5 + 3 * i)) →
   ∃ T', TA n (.slice p n c) p5 least T' ∧ On Tp.prog Post l x₀ T' [.code Tp.t4] (husks v (5 + 3 * n)) ∧ ∀ j, i ≤ j → j < n → ∃ x y, Pair v p j x y
 | 0, i, T, hr, hT, h20, h => by
   obtain rfl : n = i := by omega
   obtain ⟨T', hT', h'⟩ := exitA hT h20 h
   exact ⟨T', hT', h', fun j h1 h2 => by omega⟩
 | r + 1, i, T, hr, hT, h20, h => by
   obtain ⟨T1, x, y, hT1, h1, hp, h'⟩ := roundA hsw (by omega) hn hT h20 h
   obtain ⟨T', hT', h'', hall⟩ := loopA hsw hn r (i + 1) T1 (by omega) hT1 h1 h'
   refine ⟨T', hT', h'', fun j h1 h2 => ?_⟩
   rcases Nat.lt_or_ge i j with hlt | hge
   · exact hall j hlt h2
   · obtain rfl : j = i := by omega
     exact ⟨x, y, hp⟩
end
end Go.Proofs.Ytcoppnbjpncdcaa.Q
end
section
set_option linter.unusedVariables false
set_option linter.unusedSimpArgs false
namespace Go.Proofs.Ytcoppnbjpncdcaa.Q
open Go Go.Conc Go.Proofs.Ytcoppnbjpncdcaa.Sim
open Go.ConcR (mk KK WgAt wgBlock stA smA rd wr)
theorem add_two (b m : Nat) : (⟨b, 0, none⟩ : Addr).add (m * 2) = ⟨b, m * 2, none⟩ := by
 unfold Addr.add
 by_cases h : m * 2 = 0
 · rw [if_pos h, h]
 · rw [if_neg h, Nat.zero_add]
section
variable {w : World} {ρ : Operand → Value} {o : Oper}
theorem run_mk0 {x y : Operand} {n : Nat} (hn : n ≤ 9) (hop : o.op = .makeSlice 28 x y) (hx : ρ x = .int .i64 0) (hy : ρ y = .int .i64 n) :
   (execOp ρ o).run Try.prog w = .ok (.value (.slice (some ⟨w.heap.size, 0, none⟩) 0 n)) { w with heap := w.heap.push (.cells (Array.replicate (2 * n) (.int .i64 0)) 30) } ∧ (execOp ρ o).events Try.prog w #[] = #[] := by
 have h := run_make (P := Try.prog) w 28 30 Try.t30 (.agg #[.int .i64 0, .int .i64 0]) (by kernel_rfl) (by kernel_rfl) (by kernel_rfl) .i64 .i64 0 n (by omega) (by omega) (by rw [show Try.t30.bytes = 16 by kernel_rfl]; omega) (by omega)
 unfold execOp
 simp only [hop, hx, hy]
 have e : (Value.agg #[.int .i64 0, .int .i64 0]).cells = #[.int .i64 0, .int .i64 0] := rfl
 rw [e, show Try.t30.size = 2 by kernel_rfl, Int.toNat_natCast, Nat.mul_comm, made2] at h
 refine ⟨?_, ?_⟩
 · simp [go_sem, h]
 · rcases (show n = 0 ∨ n = 1 ∨ n = 2 ∨ n = 3 ∨ n = 4 ∨ n = 5 ∨ n = 6 ∨ n = 7 ∨ n = 8 ∨ n = 9 by omega) with rfl | rfl | rfl | rfl | rfl | rfl | rfl | rfl | rfl | rfl <;>
     (simp [go_sem, Instr.makeSlice, Go.newRow, IntKind.wrap_i64, Try.t30] <;> rfl)
theorem run_mk0S {x y : Operand} {n : Nat} (hn : n ≤ 9) (hop : o.op = .makeSlice 28 x y) (hx : ρ x = .int .i64 0) (hy : ρ y = .int .i64 n) :
   (execOp ρ o).run Tp.prog w = .ok (.value (.slice (some ⟨w.heap.size, 0, none⟩) 0 n)) { w with heap := w.heap.push (.cells (Array.replicate (2 * n) (.int .i64 0)) 30) } := by
 have h := run_make (P := Tp.prog) w 28 30 Try.t30 (.agg #[.int .i64 0, .int .i64 0]) (by kernel_rfl) (by kernel_rfl) (by kernel_rfl) .i64 .i64 0 n (by omega) (by omega) (by rw [show Try.t30.bytes = 16 by kernel_rfl]; omega) (by omega)
 unfold execOp
 simp only [hop, hx, hy]
 have e : (Value.agg #[.int .i64 0, .int .i64 0]).cells = #[.int .i64 0, .int .i64 0] := rfl
 rw [e, show Try.t30.size = 2 by kernel_rfl, Int.toNat_natCast, Nat.mul_comm, made2] at h
 simp [go_sem, h]
theorem run_bs {x : Operand} {a b : Int} (hop : o.op = .buildSlice 28 1 #[(0, x)]) (hx : ρ x = .agg #[.int .i64 a, .int .i64 b]) :
   (execOp ρ o).run Try.prog w = .ok (.value (.slice (some ⟨w.heap.size, 0, none⟩) 1 1)) { w with heap := w.heap.push (.cells #[.int .i64 a, .int .i64 b] 30) } ∧ (execOp ρ o).events Try.prog w #[] = #[] := by
 unfold execOp
 simp only [hop]
 constructor <;> simp [go_sem, hx, Instr.buildSlice, Go.newRow]
theorem run_bsS {x : Operand} {a b : Int} (hop : o.op = .buildSlice 28 1 #[(0, x)]) (hx : ρ x = .agg #[.int .i64 a, .int .i64 b]) :
   (execOp ρ o).run Tp.prog w = .ok (.value (.slice (some ⟨w.heap.size, 0, none⟩) 1 1)) { w with heap := w.heap.push (.cells #[.int .i64 a, .int .i64 b] 30) } := by
 unfold execOp
 simp only [hop]
 simp [go_sem, hx, Instr.buildSlice, Go.newRow]
theorem run_ap {x y : Operand} {b b2 m n : Nat} {a1 a2 : Int} {u1 u2 : Value} (hop : o.op = .call { callee := .builtin .append, args := #[x, y], argTypes := #[28, 28] }) (hx : ρ x = .slice (some ⟨b, 0, none⟩) m n) (hy : ρ y = .slice (some ⟨b2, 0, none⟩) 1 1) (hm : m < n)
   (h1 : w.cell? ⟨b2, 0, none⟩ = some (.int .i64 a1)) (h2 : w.cell? ⟨b2, 1, none⟩ = some (.int .i64 a2)) (k1 : w.cell? ⟨b, m * 2, none⟩ = some u1) (k2 : (w.setCell ⟨b, m * 2, none⟩ (.int .i64 a1)).cell? ⟨b, m * 2 + 1, none⟩ = some u2)
   (z1 : w.frozen? ⟨b, m * 2, none⟩ = false) (z2 : (w.setCell ⟨b, m * 2, none⟩ (.int .i64 a1)).frozen? ⟨b, m * 2 + 1, none⟩ = false) :
   (execOp ρ o).run Try.prog w = .ok (.value (.slice (some ⟨b, 0, none⟩) (m + 1) n)) ((w.setCell ⟨b, m * 2, none⟩ (.int .i64 a1)).setCell ⟨b, m * 2 + 1, none⟩ (.int .i64 a2)) ∧
     ∀ e ∈ (execOp ρ o).events Try.prog w #[], e = ⟨.cell ⟨b2, 0, none⟩, false, false⟩ ∨ e = ⟨.cell ⟨b2, 1, none⟩, false, false⟩ ∨ e = ⟨.cell ⟨b, m * 2, none⟩, true, false⟩ ∨ e = ⟨.cell ⟨b, m * 2 + 1, none⟩, true, false⟩ := by
 have hle : m + 1 ≤ n := hm
 have ha := add_two b m
 unfold execOp
 simp only [hop]
 refine ⟨?_, ?_⟩
 · simp [go_sem, hx, hy, Builtin.append_, Builtin.lenOf, Builtin.firstCells, hle, h1, h2, k1, k2, z1, z2, Go.storeCells, Go.loadCells, Go.loadCellsFrom]
 · simp [go_sem, hx, hy, Builtin.append_, Builtin.lenOf, Builtin.firstCells, hle, h1, h2, k1, k2, z1, z2, Go.storeCells, Go.loadCells, Go.loadCellsFrom]
theorem run_apS {x y : Operand} {b b2 m n : Nat} {a1 a2 : Int} {u1 u2 : Value} (hop : o.op = .call { callee := .builtin .append, args := #[x, y], argTypes := #[28, 28] }) (hx : ρ x = .slice (some ⟨b, 0, none⟩) m n) (hy : ρ y = .slice (some ⟨b2, 0, none⟩) 1 1) (hm : m < n)
   (h1 : w.cell? ⟨b2, 0, none⟩ = some (.int .i64 a1)) (h2 : w.cell? ⟨b2, 1, none⟩ = some (.int .i64 a2)) (k1 : w.cell? ⟨b, m * 2, none⟩ = some u1) (k2 : (w.setCell ⟨b, m * 2, none⟩ (.int .i64 a1)).cell? ⟨b, m * 2 + 1, none⟩ = some u2)
   (z1 : w.frozen? ⟨b, m * 2, none⟩ = false) (z2 : (w.setCell ⟨b, m * 2, none⟩ (.int .i64 a1)).frozen? ⟨b, m * 2 + 1, none⟩ = false) :
   (execOp ρ o).run Tp.prog w = .ok (.value (.slice (some ⟨b, 0, none⟩) (m + 1) n)) ((w.setCell ⟨b, m * 2, none⟩ (.int .i64 a1)).setCell ⟨b, m * 2 + 1, none⟩ (.int .i64 a2)) := by
 have hle : m + 1 ≤ n := hm
 have ha := add_two b m
 unfold execOp
 simp only [hop]
 simp [go_sem, hx, hy, Builtin.append_, Builtin.lenOf, Builtin.firstCells, hle, h1, h2, k1, k2, z1, z2, Go.storeCells, Go.loadCells, Go.loadCellsFrom]
theorem run_ldS {x : Operand} {ad : Addr} {v : Value} (hop : o.op = .load 3 x) (hx : ρ x = .pointer (some ad)) (hc : w.cell? ad = some v) : (execOp ρ o).run Tp.prog w = .ok (.value v) w := by
 unfold execOp
 simp only [hop, hx]
 simp [go_sem, hc]
theorem run_ld30S {x : Operand} {ad : Addr} {v1 v2 : Value} (hop : o.op = .load 30 x) (hx : ρ x = .pointer (some ad)) (hc : w.cell? ad = some v1) (hc2 : w.cell? ⟨ad.block, ad.off + 1, none⟩ = some v2) : (execOp ρ o).run Tp.prog w = .ok (.value (.agg #[v1, v2])) w := by
 unfold execOp
 simp only [hop, hx]
 simp [go_sem, hc, hc2, Go.loadVar, Go.loadCells, Go.loadCellsFrom]
theorem run_ixS {x y : Operand} {b off n c i : Nat} (hop : o.op = .indexAddr 28 x y) (hx : ρ x = .slice (some ⟨b, off, none⟩) n c) (hy : ρ y = .int .i64 i) (hi : i < n) : (execOp ρ o).run Tp.prog w = .ok (.value (.pointer (some ⟨b, off + 2 * i, none⟩))) w := by
 unfold execOp
 simp only [hop, hx, hy]
 simp [go_sem, hi, Nat.mul_comm]
theorem run_lenS {x : Operand} {a : Option Addr} {n c : Nat} {ats : Array TypeId} (hop : o.op = .call { callee := .builtin .len, args := #[x], argTypes := ats }) (ha : ats = #[28]) (hx : ρ x = .slice a n c) : (execOp ρ o).run Tp.prog w = .ok (.value (.int .i64 n)) w := by
 subst ha
 unfold execOp
 simp only [hop]
 simp [go_sem, hx]
theorem run_ld4 {x : Operand} {ad : Addr} {v : Value} (hop : o.op = .load 4 x) (hx : ρ x = .pointer (some ad)) (hc : w.cell? ad = some v) :
   (execOp ρ o).run Try.prog w = .ok (.value v) w ∧ (execOp ρ o).events Try.prog w #[] = #[⟨.cell ad, false, false⟩] := by
 unfold execOp
 simp only [hop, hx]
 constructor <;> simp [go_sem, hc]
end
end Go.Proofs.Ytcoppnbjpncdcaa.Q
end
section
set_option linter.unusedVariables false
set_option linter.unusedSimpArgs false
namespace Go.Proofs.Ytcoppnbjpncdcaa.Q
open Go Go.Conc Go.Proofs.Ytcoppnbjpncdcaa.Sim
open Go.ConcR (mk KK WgAt wgBlock stA smA rd wr)
structure Bk where
 J0 : Nat → Prop
 w0 : World
 N : Nat
 C : Cfg
 V : Nat
 V0 : Nat
 off : Nat
 xs : Nat → Int
 ys : Nat → Int
 vals : Nat → Value × Value × Value
def Bk.Sh (B : Bk) : Loc → Prop := fun l => (∃ a : Addr, l = .cell a ∧ B.J0 a.block) ∨ Shr B.C l
structure BkOk (B : Bk) : Prop where
 j0 : ∀ b, B.J0 b → b < B.N
 hN : B.w0.heap.size = B.N
 f : B.N ≤ B.C.F
 g : B.N ≤ B.C.G
 h : B.N ≤ B.C.H
 wg : B.N ≤ B.C.Wg
 v : B.N ≤ B.V
 gv : B.C.gv = .slice (some ⟨B.C.G, 0, none⟩) B.C.n B.C.n
 hv : B.C.hv = .slice (some ⟨B.C.H, 0, none⟩) B.C.n B.C.n
 vf : B.V ≠ B.C.F
 vw : B.V ≠ B.C.Wg
 apart : B.C.Apart
 v0 : B.V0 < B.N
 n9 : B.C.n ≤ 9
structure PQ (B : Bk) (J : Nat → Prop) (w v : World) : Prop where
 sw : SW v
 rel : Rel J w v
 kept : Kept B.J0 B.w0 J w
 cv : w.cell? ⟨B.V, 0, none⟩ = some (.pointer (some ⟨B.C.F, 0, none⟩))
 c2 : w.cell? ⟨B.C.F, 2, none⟩ = some B.C.gv
 c3 : w.cell? ⟨B.C.F, 3, none⟩ = some B.C.hv
 has : ∀ i, i < B.C.n → Has B.C B.vals i w
 jV : J B.V
 jF : J B.C.F
 jG : J B.C.G
 jH : J B.C.H
 jW : J B.C.Wg
 pair : ∀ j, j < B.C.n → v.cell? ⟨B.V0, B.off + 2 * j, none⟩ = some (.int .i64 (B.xs j)) ∧ v.cell? ⟨B.V0, B.off + 2 * j + 1, none⟩ = some (.int .i64 (B.ys j))
section
variable {B : Bk} {J : Nat → Prop} {w v : World}
theorem notSh (O : BkOk B) {b o : Nat} (hb : B.N ≤ b) (h : b = B.C.F → 2 ≤ o) (hw : b ≠ B.C.Wg) : ¬ B.Sh (.cell ⟨b, o, none⟩) := by
 rintro (⟨a, e, hj⟩ | e | e | e | e)
 · simp only [Loc.cell.injEq] at e
   subst e
   have := O.j0 _ hj
   simp only at this
   omega
 · simp only [Loc.cell.injEq, Addr.mk.injEq] at e
   have := h e.1
   omega
 · simp only [Loc.cell.injEq, Addr.mk.injEq] at e
   have := h e.1
   omega
 · simp only [Loc.cell.injEq] at e
   exact hw (congrArg Addr.block e)
 · simp only [Loc.cell.injEq] at e
   exact hw (congrArg Addr.block e)
theorem PQ.sz (h : PQ B J w v) (O : BkOk B) : B.N ≤ w.heap.size := by have := h.kept.size; rw [O.hN] at this; exact this
theorem PQ.shJ (h : PQ B J w v) : ∀ l, B.Sh l → Shun J l := by
 rintro l (⟨a, e, hj⟩ | e | e | e | e)
 · exact ⟨a, e, h.kept.sub _ hj⟩
 · exact ⟨_, e, h.jF⟩
 · exact ⟨_, e, h.jF⟩
 · exact ⟨_, e, h.jW⟩
 · exact ⟨_, e, h.jW⟩
theorem PQ.at (h : PQ B J w v) (d : Nat) : PQ B J (w.at d) v := ⟨h.sw, h.rel.at d, ⟨h.kept.sub, h.kept.new, h.kept.keep, h.kept.os, h.kept.out, h.kept.size⟩, h.cv, h.c2, h.c3, h.has, h.jV, h.jF, h.jG, h.jH, h.jW, h.pair⟩
theorem cell_push {w : World} {ob : Obj} {a : Addr} {z : Value} (h : w.cell? a = some z) : ({ w with heap := w.heap.push ob } : World).cell? a = some z :=
 (cell_of_block' (push_old w ob (lt_of_cell h))).trans h
theorem cell_set {w : World} {a c : Addr} {x z : Value} (h : w.cell? a = some z) (hne : a.block ≠ c.block) : (w.setCell c x).cell? a = some z :=
 (cell_of_block' (heap_set w c x _ hne)).trans h
theorem kept_push (h : PQ B J w v) (O : BkOk B) (ob : Obj) : Kept B.J0 B.w0 J { w with heap := w.heap.push ob } :=
 ⟨h.kept.sub, h.kept.new, fun b hb => (push_old w ob (by have := O.j0 b hb; have := h.sz O; omega)).trans (h.kept.keep b hb), h.kept.os, h.kept.out, by have := h.kept.size; simp; omega⟩
theorem kept_set (h : PQ B J w v) (O : BkOk B) {r o : Nat} (hr : B.N ≤ r) (x : Value) : Kept B.J0 B.w0 J (w.setCell ⟨r, o, none⟩ x) :=
 ⟨h.kept.sub, h.kept.new, fun b hb => (heap_set w _ x b (by have := O.j0 b hb; show b ≠ r; omega)).trans (h.kept.keep b hb), h.kept.os, h.kept.out, by have := h.kept.size; simpa [World.setCell] using this⟩
theorem PQ.both (h : PQ B J w v) (O : BkOk B) {ob : Obj} (hp : Plain ob) : PQ B J { w with heap := w.heap.push ob } { v with heap := v.heap.push ob } :=
 have hr := h.rel.new hp
 ⟨hr.sw, hr, kept_push h O ob, cell_push h.cv, cell_push h.c2, cell_push h.c3, fun i hi => ⟨cell_push (h.has i hi).1, cell_push (h.has i hi).2.1, cell_push (h.has i hi).2.2⟩, h.jV, h.jF, h.jG, h.jH, h.jW,
   fun j hj => ⟨cell_push (h.pair j hj).1, cell_push (h.pair j hj).2⟩⟩
theorem PQ.husk (h : PQ B J w v) (O : BkOk B) (c : Array Value) (t : TypeId) : PQ B (fun b => J b ∨ b = w.heap.size) { w with heap := w.heap.push (.cells c t) } { v with heap := v.heap.push husk } := by
 have hr : Rel (fun b => J b ∨ b = w.heap.size) { w with heap := w.heap.push (.cells c t) } { v with heap := v.heap.push Sim.husk } := by
   refine ⟨by simp [h.rel.size], fun b hb => ?_, fun b o ho => ?_⟩
   · rcases hb with hb | rfl
     · have := h.rel.low b hb; simp; omega
     · simp
   · have hs := h.rel.size
     by_cases hb : b = w.heap.size
     · subst hb
       refine .inr (.inl ⟨.inr rfl, ?_, .inr ⟨c, t, by simp⟩⟩)
       rw [← hs] at ho
       simpa using ho.symm
     · have hlt : b < v.heap.size := by have := (Array.getElem?_eq_some_iff.1 ho).1; simp at this; omega
       have ho' : v.heap[b]? = some o := by rw [← ho]; exact (push_old v Sim.husk hlt).symm
       have e : (w.heap.push (.cells c t))[b]? = w.heap[b]? := push_old w _ (by omega)
       rcases h.rel.blk b o ho' with ⟨h1, h2, h3⟩ | ⟨h1, h2, h3⟩ | ⟨h1, h2⟩
       · exact .inl ⟨fun x => x.elim h1 hb, e.trans h2, h3⟩
       · exact .inr (.inl ⟨.inl h1, h2, h3.imp (fun x => e.trans x) fun ⟨c, t, x⟩ => ⟨c, t, e.trans x⟩⟩)
       · exact .inr (.inr ⟨.inl h1, h2⟩)
 have hk := kept_push h O (.cells c t)
 exact ⟨hr.sw, hr, ⟨fun b hb => .inl (hk.sub b hb), fun b hb => hb.elim (hk.new b) fun e => .inr (by subst e; exact h.kept.size), hk.keep, hk.os, hk.out, hk.size⟩, cell_push h.cv, cell_push h.c2, cell_push h.c3, fun i hi => ⟨cell_push (h.has i hi).1, cell_push (h.has i hi).2.1, cell_push (h.has i hi).2.2⟩,
   .inl h.jV, .inl h.jF, .inl h.jG, .inl h.jH, .inl h.jW, fun j hj => ⟨cell_push (h.pair j hj).1, cell_push (h.pair j hj).2⟩⟩
theorem PQ.mine (h : PQ B J w v) (O : BkOk B) {r o : Nat} {x : Value} (hj : J r) (hc : Cl w r) (hN : B.N ≤ r) (h1 : r ≠ B.V) (h2 : r ≠ B.C.F) (h3 : r ≠ B.C.G) (h4 : r ≠ B.C.H) : PQ B J (w.setCell ⟨r, o, none⟩ x) v := by
 have hr : Rel J (w.setCell ⟨r, o, none⟩ x) v := by
   refine ⟨by simp [World.setCell, h.rel.size], fun b hb => by have := h.rel.low b hb; simpa [World.setCell] using this, fun b ob ho => ?_⟩
   by_cases hb : b = r
   · subst hb
     obtain ⟨c, t, hc'⟩ := cl_set (a := ⟨b, o, none⟩) (v := x) hc
     rcases h.rel.blk b ob ho with ⟨q, _⟩ | ⟨q1, q2, q3⟩ | ⟨q1, q2⟩
     · exact absurd hj q
     · exact .inr (.inl ⟨q1, q2, .inr ⟨c, t, hc'⟩⟩)
     · exact .inr (.inr ⟨q1, q2⟩)
   · have e : (w.setCell ⟨r, o, none⟩ x).heap[b]? = w.heap[b]? := heap_set w _ x b hb
     rcases h.rel.blk b ob ho with ⟨q1, q2, q3⟩ | ⟨q1, q2, q3⟩ | ⟨q1, q2⟩
     · exact .inl ⟨q1, e.trans q2, q3⟩
     · exact .inr (.inl ⟨q1, q2, q3.imp (fun x => e.trans x) fun ⟨c, t, x⟩ => ⟨c, t, e.trans x⟩⟩)
     · exact .inr (.inr ⟨q1, q2⟩)
 exact ⟨h.sw, hr, kept_set h O hN x, cell_set h.cv (Ne.symm h1), cell_set h.c2 (Ne.symm h2), cell_set h.c3 (Ne.symm h2), fun i hi => ⟨cell_set (h.has i hi).1 (Ne.symm h3), cell_set (h.has i hi).2.1 (Ne.symm h3), cell_set (h.has i hi).2.2 (Ne.symm h4)⟩, h.jV, h.jF, h.jG, h.jH, h.jW, h.pair⟩
theorem PQ.put (h : PQ B J w v) (O : BkOk B) {r o : Nat} {x : Value} (hj : ¬ J r) (hN : B.N ≤ r) : PQ B J (w.setCell ⟨r, o, none⟩ x) (v.setCell ⟨r, o, none⟩ x) := by
 have hr := h.rel.setCell (a := ⟨r, o, none⟩) x hj
 have ne : ∀ {b : Nat}, J b → b ≠ r := fun hb e => hj (e ▸ hb)
 have hv0 : B.V0 ≠ r := by have := O.v0; omega
 exact ⟨hr.sw, hr, kept_set h O hN x, cell_set h.cv (ne h.jV), cell_set h.c2 (ne h.jF), cell_set h.c3 (ne h.jF), fun i hi => ⟨cell_set (h.has i hi).1 (ne h.jG), cell_set (h.has i hi).2.1 (ne h.jG), cell_set (h.has i hi).2.2 (ne h.jH)⟩, h.jV, h.jF, h.jG, h.jH, h.jW,
   fun j hj => ⟨cell_set (h.pair j hj).1 hv0, cell_set (h.pair j hj).2 hv0⟩⟩
end
end Go.Proofs.Ytcoppnbjpncdcaa.Q
end
section
set_option linter.unusedVariables false
set_option linter.unusedSimpArgs false
namespace Go.Proofs.Ytcoppnbjpncdcaa.Q
open Go Go.Conc Go.Proofs.Ytcoppnbjpncdcaa.Sim
def pH (v : World) : World := { v with heap := v.heap.push husk }
def pC (v : World) (x y : Int) : World := { v with heap := v.heap.push (.cells #[.int .i64 x, .int .i64 y] 30) }
def aW (v : World) (out m : Nat) (x y : Int) : World := (v.setCell ⟨out, m * 2, none⟩ (.int .i64 x)).setCell ⟨out, m * 2 + 1, none⟩ (.int .i64 y)
structure TB (n : Nat) (sl p5 : Value) (least : Int) (out m i : Nat) (T : Array Value) : Prop where
 ta : TA n sl p5 least T
 s12 : evalT T (.tmp 12) = .slice (some ⟨out, 0, none⟩) m n
 s20 : evalT T (.tmp 20) = .int .i64 i
section
variable {n : Nat} {sl p5 : Value} {least : Int} {out m i : Nat} {T : Array Value}
theorem TB.put (h : TB n sl p5 least out m i T) {t : Nat} (ht : ∀ s ∈ [5, 7, 15, 17, 12, 20], s ≠ t) (ht2 : t < 63) (x : Value) : TB n sl p5 least out m i (putT T (some t) x) :=
 ⟨h.ta.put (fun s hs => ht s (by simp only [List.mem_cons, List.not_mem_nil, or_false] at hs ⊢; omega)) ht2 x, (ev_ne h.ta.size ht2 (ht 12 (by decide))).trans h.s12, (ev_ne h.ta.size ht2 (ht 20 (by decide))).trans h.s20⟩
end
def Row (n out : Nat) (w : World) : Prop := ∃ cs : Array Value, cs.size = 2 * n ∧ w.heap[out]? = some (.cells cs 30)
section
variable {n out m : Nat} {w : World} {x y : Int}
theorem Row.push (h : Row n out w) (ob : Obj) : Row n out { w with heap := w.heap.push ob } := by
 obtain ⟨cs, h1, h2⟩ := h
 exact ⟨cs, h1, (push_old w ob (Array.getElem?_eq_some_iff.1 h2).1).trans h2⟩
theorem Row.cells (h : Row n out w) (hm : m < n) : (∃ u, w.cell? ⟨out, m * 2, none⟩ = some u) ∧ w.frozen? ⟨out, m * 2, none⟩ = false ∧
   (∃ u, (w.setCell ⟨out, m * 2, none⟩ (.int .i64 x)).cell? ⟨out, m * 2 + 1, none⟩ = some u) ∧ (w.setCell ⟨out, m * 2, none⟩ (.int .i64 x)).frozen? ⟨out, m * 2 + 1, none⟩ = false := by
 obtain ⟨cs, h1, h2⟩ := h
 have h3 := heap_at (off := m * 2) w (.int .i64 x) h2
 have l1 : m * 2 < cs.size := by omega
 have l2 : m * 2 + 1 < cs.size := by omega
 refine ⟨⟨cs[m * 2], by simp [World.cell?, h2, l1]⟩, by simp [World.frozen?, h2], ⟨(cs.setIfInBounds (m * 2) (.int .i64 x))[m * 2 + 1]'(by simpa using l2), by simp [World.cell?, h3, l2]⟩, by simp [World.frozen?, h3]⟩
theorem Row.aW (h : Row n out w) : Row n out (aW w out m x y) := by
 obtain ⟨cs, h1, h2⟩ := h
 exact ⟨_, by simp [h1], heap_at _ _ (heap_at w _ h2)⟩
end
structure Zs (S : Program) where
 cs : List Frame
 st : Array Value → List Item → World → Prop
 go : ∀ {T : Array Value} {k : List Item} {v : World} {T' : Array Value} {k' : List Item} {v' : World} {es : Array Event}, st T k v → stepG S true (G (SF T k) cs) v = .go (G (SF T' k') cs) v' es → st T' k' v'
def onZ (S : Program) (Post : Value → World → Prop) (l : List Frame) (x₀ : Frame × List Frame × World) : Zs S := ⟨l ++ [noWay S], On S Post l x₀, fun h hs => h.step hs⟩
section
variable {S : Program} (Z : Zs S) {T : Array Value} {k : List Item} {v v' : World} {ops : Array Oper} {i : Nat} {is : List Nat} {o : Oper} {x : Value}
theorem Zs.run {off : TypeId → Nat → Option Nat} (hoff : OffOk S off) : ∀ (f : Nat) {T : Array Value} {k : List Item}, Z.st T k v → Z.st (evRun off f T k).1 (evRun off f T k).2 v
 | 0, _, _, h => h
 | f + 1, T, k, h => by
   simp only [evRun]
   cases hs : evStep off T k with
   | none => exact h
   | some x => exact Zs.run hoff f (Z.go h (evStep_go (by simp [base]) hoff (T' := x.1) (k' := x.2) hs v))
theorem Zs.inLoop {c : Code} (h : Z.st T (.inLoop c :: k) v) : Z.st T (.code c :: .inLoop c :: k) v := Z.go h stepG_inLoop
theorem Zs.val (h : Z.st T (.inRegion ops (i :: is) :: k) v) (ho : ops[i]? = some o) (hw : Region.wanted o (yieldedT ops T) = true) (hr : (execOp (evalT T) o).run S v = .ok (.value x) v') : Z.st (putT T o.dst x) (.inRegion ops is :: k) v' := by
 have := stepG_value (P := S) (main := true) (b := base 38) (a := ⟨T, []⟩) (cs := Z.cs) (k := k) (rest := is) (w := v) ho (wantedA hw) (by simp [base]) (by rw [evalA]; exact hr)
 rw [putA] at this
 exact Z.go h this
end
section
variable (Z : Zs Tp.prog) {T : Array Value} {k : List Item} {v v' : World} {ops : Array Oper} {i : Nat} {is : List Nat} {o : Oper} {x : Value}
theorem Zs.pv (h : Z.st T (.inRegion ops (i :: is) :: k) v) (ho : ops[i]? = some o) (hw : Region.wanted o (yieldedT ops T) = true) (hv : evPure (offP Tp.prog) (evalT T) o.op = some x) : Z.st (putT T o.dst x) (.inRegion ops is :: k) v := by
 refine Z.go h (evStep_go (by simp [base]) (offP_ok _) ?_ v)
 simp only [evStep, ho, hw, if_true, hv]
theorem Zs.husk {n : Nat} (h : Z.st T (.inRegion ops (i :: is) :: k) (husks v n)) (ho : ops[i]? = some Tp.hk) : ∃ x, Z.st (putT T (some 19) x) (.inRegion ops is :: k) (husks v (n + 1)) := by
 have := Z.val h ho rfl (run_hk _ _)
 rw [husks_push] at this
 exact ⟨_, this⟩
end
section
variable (Z : Zs Tp.prog) {T : Array Value} {k : List Item} {v : World}
variable {n c : Nat} {p5 : Value} {least : Int} {out m i V0 off : Nat} {x y : Int}
set_option maxHeartbeats 1000000 in
theorem roundB (hi : i < n) (hT : TB n (.slice (some ⟨V0, off, none⟩) n c) p5 least out m i T) (hx : v.cell? ⟨V0, off + 2 * i, none⟩ = some (.int .i64 x)) (hy : v.cell? ⟨V0, off + 2 * i + 1, none⟩ = some (.int .i64 y)) {K : List Item} (h : Z.st T (.code Tp.lpB :: K) v) :
   ∃ T', TB n (.slice (some ⟨V0, off, none⟩) n c) p5 least out m i T' ∧ evalT T' (.tmp 22) = .pointer (some ⟨V0, off + 2 * i, none⟩) ∧ evalT T' (.tmp 28) = .bool (decide (IntKind.i64.wrap (y - x) ≥ least)) ∧
     Z.st T' (.code (.cond (.tmp 28) (.region 16 Tp.opsF false) .skip) :: .code (.region 107 Tp.opsG false) :: K) (pH v) := by
 replace h := Z.run (offP_ok _) 2 h
 simp only [evRun, evStep, Tp.lpB, show Tp.opsT.size = 1 from rfl, List.range, List.range.loop] at h
 replace h := Z.pv h (o := Tp.op 21 (.binOp .lss 3 (.tmp 20) (.tmp 17) 3)) (x := .bool true) rfl rfl (by simp [Tp.op, evPure, hT.s20, hT.ta.s17, intBin, hi])
 rw [show (Tp.op 21 (.binOp .lss 3 (.tmp 20) (.tmp 17) 3)).dst = some 21 from rfl] at h
 have g21 : evalT (putT T (some 21) (.bool true)) (.tmp 21) = .bool true := ev_eq hT.ta.size (by decide)
 have hT1 := hT.put (t := 21) (by decide) (by decide) (.bool true)
 generalize putT T (some 21) (.bool true) = T1 at *
 replace h := Z.run (offP_ok _) 6 h
 simp only [evRun, evStep, g21, show Tp.opsE.size = 8 from rfl, List.range, List.range.loop] at h
 rw [← husks_zero v] at h
 obtain ⟨x1, h⟩ := Z.husk h rfl
 rw [show husks v (0 + 1) = pH v from by rw [← husks_push, husks_zero]; rfl] at h
 have hx' : (pH v).cell? ⟨V0, off + 2 * i, none⟩ = some (.int .i64 x) := cell_push hx
 have hy' : (pH v).cell? ⟨V0, off + 2 * i + 1, none⟩ = some (.int .i64 y) := cell_push hy
 generalize pH v = v1 at *
 have hT2 := hT1.put (t := 19) (by decide) (by decide) x1
 generalize putT T1 (some 19) x1 = T2 at *
 replace h := Z.val h (o := Tp.op 22 (.indexAddr 28 (.tmp 7) (.tmp 20))) rfl rfl (run_ixS (x := .tmp 7) (y := .tmp 20) rfl hT2.ta.s7 hT2.s20 hi)
 rw [show (Tp.op 22 (.indexAddr 28 (.tmp 7) (.tmp 20))).dst = some 22 from rfl] at h
 have g22 := ev_eq (t := 22) (v := .pointer (some ⟨V0, off + 2 * i, none⟩)) hT2.ta.size (by decide)
 have hT3 := hT2.put (t := 22) (by decide) (by decide) (.pointer (some ⟨V0, off + 2 * i, none⟩))
 generalize putT T2 (some 22) (.pointer (some ⟨V0, off + 2 * i, none⟩)) = T3 at *
 replace h := Z.pv h (o := Tp.op 23 (.fieldAddr 30 (.tmp 22) 0)) (x := .pointer (some ⟨V0, off + 2 * i, none⟩)) rfl rfl (by simp [Tp.op, evPure, g22, offT_0, Addr.add])
 rw [show (Tp.op 23 (.fieldAddr 30 (.tmp 22) 0)).dst = some 23 from rfl] at h
 have g23 := ev_eq (t := 23) (v := .pointer (some ⟨V0, off + 2 * i, none⟩)) hT3.ta.size (by decide)
 have c22 := (ev_ne (v := .pointer (some ⟨V0, off + 2 * i, none⟩)) (s := 22) (t := 23) hT3.ta.size (by decide) (by decide)).trans g22
 have hT4 := hT3.put (t := 23) (by decide) (by decide) (.pointer (some ⟨V0, off + 2 * i, none⟩))
 generalize putT T3 (some 23) (.pointer (some ⟨V0, off + 2 * i, none⟩)) = T4 at *
 replace h := Z.val h (o := Tp.op 24 (.load 3 (.tmp 23))) rfl rfl (run_ldS rfl g23 hx')
 rw [show (Tp.op 24 (.load 3 (.tmp 23))).dst = some 24 from rfl] at h
 have g24 := ev_eq (t := 24) (v := .int .i64 x) hT4.ta.size (by decide)
 have d22 := (ev_ne (v := .int .i64 x) (s := 22) (t := 24) hT4.ta.size (by decide) (by decide)).trans c22
 have hT5 := hT4.put (t := 24) (by decide) (by decide) (.int .i64 x)
 generalize putT T4 (some 24) (.int .i64 x) = T5 at *
 replace h := Z.pv h (o := Tp.op 25 (.fieldAddr 30 (.tmp 22) 1)) (x := .pointer (some ⟨V0, off + 2 * i + 1, none⟩)) rfl rfl (by simp [Tp.op, evPure, d22, offT_1, Addr.add])
 rw [show (Tp.op 25 (.fieldAddr 30 (.tmp 22) 1)).dst = some 25 from rfl] at h
 have g25 := ev_eq (t := 25) (v := .pointer (some ⟨V0, off + 2 * i + 1, none⟩)) hT5.ta.size (by decide)
 have e22 := (ev_ne (v := .pointer (some ⟨V0, off + 2 * i + 1, none⟩)) (s := 22) (t := 25) hT5.ta.size (by decide) (by decide)).trans d22
 have e24 := (ev_ne (v := .pointer (some ⟨V0, off + 2 * i + 1, none⟩)) (s := 24) (t := 25) hT5.ta.size (by decide) (by decide)).trans g24
 have hT6 := hT5.put (t := 25) (by decide) (by decide) (.pointer (some ⟨V0, off + 2 * i + 1, none⟩))
 generalize putT T5 (some 25) (.pointer (some ⟨V0, off + 2 * i + 1, none⟩)) = T6 at *
 replace h := Z.val h (o := Tp.op 26 (.load 3 (.tmp 25))) rfl rfl (run_ldS rfl g25 hy')
 rw [show (Tp.op 26 (.load 3 (.tmp 25))).dst = some 26 from rfl] at h
 have g26 := ev_eq (t := 26) (v := .int .i64 y) hT6.ta.size (by decide)
 have f22 := (ev_ne (v := .int .i64 y) (s := 22) (t := 26) hT6.ta.size (by decide) (by decide)).trans e22
 have f24 := (ev_ne (v := .int .i64 y) (s := 24) (t := 26) hT6.ta.size (by decide) (by decide)).trans e24
 have hT7 := hT6.put (t := 26) (by decide) (by decide) (.int .i64 y)
 generalize putT T6 (some 26) (.int .i64 y) = T7 at *
 replace h := Z.pv h (o := Tp.op 27 (.binOp .sub 3 (.tmp 26) (.tmp 24) 3)) (x := .int .i64 (IntKind.i64.wrap (y - x))) rfl rfl (by simp [Tp.op, evPure, g26, f24, intBin])
 rw [show (Tp.op 27 (.binOp .sub 3 (.tmp 26) (.tmp 24) 3)).dst = some 27 from rfl] at h
 have g27 := ev_eq (t := 27) (v := .int .i64 (IntKind.i64.wrap (y - x))) hT7.ta.size (by decide)
 have h22 := (ev_ne (v := .int .i64 (IntKind.i64.wrap (y - x))) (s := 22) (t := 27) hT7.ta.size (by decide) (by decide)).trans f22
 have hT8 := hT7.put (t := 27) (by decide) (by decide) (.int .i64 (IntKind.i64.wrap (y - x)))
 generalize putT T7 (some 27) (.int .i64 (IntKind.i64.wrap (y - x))) = T8 at *
 replace h := Z.pv h (o := Tp.op 28 (.binOp .geq 3 (.tmp 27) (.tmp 15) 3)) (x := .bool (decide (IntKind.i64.wrap (y - x) ≥ least))) rfl rfl (by simp [Tp.op, evPure, g27, hT8.ta.s15, intBin])
 rw [show (Tp.op 28 (.binOp .geq 3 (.tmp 27) (.tmp 15) 3)).dst = some 28 from rfl] at h
 have g28 := ev_eq (t := 28) (v := .bool (decide (IntKind.i64.wrap (y - x) ≥ least))) hT8.ta.size (by decide)
 have i22 := (ev_ne (v := .bool (decide (IntKind.i64.wrap (y - x) ≥ least))) (s := 22) (t := 28) hT8.ta.size (by decide) (by decide)).trans h22
 have hT9 := hT8.put (t := 28) (by decide) (by decide) (.bool (decide (IntKind.i64.wrap (y - x) ≥ least)))
 generalize putT T8 (some 28) (.bool (decide (IntKind.i64.wrap (y - x) ≥ least))) = T9 at *
 replace h := Z.run (offP_ok _) 2 h
 simp only [evRun, evStep] at h
 exact ⟨T9, hT9, i22, g28, h⟩
theorem roundG (hi : i < n) (hn : n ≤ 9) {sl : Value} (hT : TB n sl p5 least out m i T) {K : List Item} (h : Z.st T (.code (.region 107 Tp.opsG false) :: .inLoop Tp.lpB :: K) v) :
   ∃ T', TB n sl p5 least out m (i + 1) T' ∧ Z.st T' (.code Tp.lpB :: .inLoop Tp.lpB :: K) v := by
 replace h := Z.run (offP_ok _) 1 h
 simp only [evRun, evStep, show Tp.opsG.size = 1 from rfl, List.range, List.range.loop] at h
 replace h := Z.pv h (o := Tp.op 20 (.binOp .add 3 (.tmp 20) Tp.i1 3)) (x := .int .i64 (i + 1 : Nat)) rfl rfl (by simp [Tp.op, evPure, hT.s20, Tp.i1, evalT_const, intBin, wrap_succ hi hn])
 rw [show (Tp.op 20 (.binOp .add 3 (.tmp 20) Tp.i1 3)).dst = some 20 from rfl] at h
 replace h := Z.run (offP_ok _) 1 h
 simp only [evRun, evStep] at h
 exact ⟨_, ⟨hT.ta.put (by decide) (by decide) _, (ev_ne hT.ta.size (by decide) (by decide)).trans hT.s12, ev_eq hT.ta.size (by decide)⟩, Z.inLoop h⟩
theorem roundF (hm : m < n) {sl : Value} (hT : TB n sl p5 least out m i T) (h22 : evalT T (.tmp 22) = .pointer (some ⟨V0, off + 2 * i, none⟩)) (hx : v.cell? ⟨V0, off + 2 * i, none⟩ = some (.int .i64 x)) (hy : v.cell? ⟨V0, off + 2 * i + 1, none⟩ = some (.int .i64 y)) (hr : Row n out v) {K : List Item}
   (h : Z.st T (.code (.region 16 Tp.opsF false) :: K) v) : ∃ T', TB n sl p5 least out (m + 1) i T' ∧ Z.st T' K (aW (pC v x y) out m x y) := by
 replace h := Z.run (offP_ok _) 1 h
 simp only [evRun, evStep, show Tp.opsF.size = 5 from rfl, List.range, List.range.loop] at h
 replace h := Z.pv h (o := Tp.op 57 (.move (.tmp 12))) (x := .slice (some ⟨out, 0, none⟩) m n) rfl rfl (by simp [Tp.op, evPure, hT.s12])
 rw [show (Tp.op 57 (.move (.tmp 12))).dst = some 57 from rfl] at h
 have g57 := ev_eq (t := 57) (v := .slice (some ⟨out, 0, none⟩) m n) hT.ta.size (by decide)
 have a22 := (ev_ne (v := .slice (some ⟨out, 0, none⟩) m n) (s := 22) (t := 57) hT.ta.size (by decide) (by decide)).trans h22
 have hT1 := hT.put (t := 57) (by decide) (by decide) (.slice (some ⟨out, 0, none⟩) m n)
 generalize putT T (some 57) (.slice (some ⟨out, 0, none⟩) m n) = T1 at *
 replace h := Z.val h (o := Tp.op 58 (.load 30 (.tmp 22))) rfl rfl (run_ld30S rfl a22 hx hy)
 rw [show (Tp.op 58 (.load 30 (.tmp 22))).dst = some 58 from rfl] at h
 have g58 := ev_eq (t := 58) (v := .agg #[.int .i64 x, .int .i64 y]) hT1.ta.size (by decide)
 have b57 := (ev_ne (v := .agg #[.int .i64 x, .int .i64 y]) (s := 57) (t := 58) hT1.ta.size (by decide) (by decide)).trans g57
 have hT2 := hT1.put (t := 58) (by decide) (by decide) (.agg #[.int .i64 x, .int .i64 y])
 generalize putT T1 (some 58) (.agg #[.int .i64 x, .int .i64 y]) = T2 at *
 replace h := Z.val h (o := Tp.op 59 (.buildSlice 28 1 #[(0, .tmp 58)])) rfl rfl (run_bsS rfl g58)
 rw [show (Tp.op 59 (.buildSlice 28 1 #[(0, .tmp 58)])).dst = some 59 from rfl] at h
 have g59 := ev_eq (t := 59) (v := .slice (some ⟨v.heap.size, 0, none⟩) 1 1) hT2.ta.size (by decide)
 have c57 := (ev_ne (v := .slice (some ⟨v.heap.size, 0, none⟩) 1 1) (s := 57) (t := 59) hT2.ta.size (by decide) (by decide)).trans b57
 have hT3 := hT2.put (t := 59) (by decide) (by decide) (.slice (some ⟨v.heap.size, 0, none⟩) 1 1)
 generalize putT T2 (some 59) (.slice (some ⟨v.heap.size, 0, none⟩) 1 1) = T3 at *
 have hr' : Row n out (pC v x y) := hr.push _
 have hnew : (pC v x y).heap[v.heap.size]? = some (.cells #[.int .i64 x, .int .i64 y] 30) := by
   show (v.heap.push _)[v.heap.size]? = _
   exact Array.getElem?_push_size
 have hc0 : (pC v x y).cell? ⟨v.heap.size, 0, none⟩ = some (.int .i64 x) := by unfold World.cell?; rw [hnew]; rfl
 have hc1 : (pC v x y).cell? ⟨v.heap.size, 1, none⟩ = some (.int .i64 y) := by unfold World.cell?; rw [hnew]; rfl
 obtain ⟨⟨u1, k1⟩, z1, ⟨u2, k2⟩, z2⟩ := hr'.cells (x := x) hm
 replace h := Z.val h (v' := aW (pC v x y) out m x y) (o := Tp.op 60 (.call { callee := .builtin .append, args := #[.tmp 57, .tmp 59], argTypes := #[28, 28] })) rfl rfl
   (run_apS rfl c57 g59 hm hc0 hc1 k1 k2 z1 z2)
 rw [show (Tp.op 60 (.call { callee := .builtin .append, args := #[.tmp 57, .tmp 59], argTypes := #[28, 28] })).dst = some 60 from rfl] at h
 have g60 := ev_eq (t := 60) (v := .slice (some ⟨out, 0, none⟩) (m + 1) n) hT3.ta.size (by decide)
 have hT4 := hT3.put (t := 60) (by decide) (by decide) (.slice (some ⟨out, 0, none⟩) (m + 1) n)
 generalize putT T3 (some 60) (.slice (some ⟨out, 0, none⟩) (m + 1) n) = T4 at *
 replace h := Z.pv h (o := Tp.op 12 (.assign (.tmp 60))) (x := .slice (some ⟨out, 0, none⟩) (m + 1) n) rfl rfl (by simp [Tp.op, evPure, g60])
 rw [show (Tp.op 12 (.assign (.tmp 60))).dst = some 12 from rfl] at h
 replace h := Z.run (offP_ok _) 1 h
 simp only [evRun, evStep] at h
 exact ⟨_, ⟨hT4.ta.put (by decide) (by decide) _, ev_eq hT4.ta.size (by decide), (ev_ne hT4.ta.size (by decide) (by decide)).trans hT4.s20⟩, h⟩
end
end Go.Proofs.Ytcoppnbjpncdcaa.Q
end
section
set_option linter.unusedVariables false
set_option linter.unusedSimpArgs false
namespace Go.Proofs.Ytcoppnbjpncdcaa.Q
open Go Go.Conc Go.Proofs.Ytcoppnbjpncdcaa.Sim
open Go.ConcR (mk KK WgAt wgBlock stA smA rd wr)
noncomputable def tl11 : Code := snd rest38
noncomputable def ops11 : Array Oper := opsOf (fst tl11)
noncomputable def ops12 : Array Oper := opsOf (fst (fst (snd tl11)))
noncomputable def lpQ : Code := inLp (snd (fst (snd tl11)))
noncomputable def ops13 : Array Oper := opsOf (fst lpQ)
noncomputable def inQ : Code := inBl (fst (snd (snd lpQ)))
noncomputable def ops14 : Array Oper := opsOf (fst inQ)
noncomputable def ops15 : Array Oper := opsOf (fst (snd inQ))
noncomputable def ops16 : Array Oper := opsOf (thn (snd (snd inQ)))
noncomputable def ops17 : Array Oper := opsOf (snd (snd (snd lpQ)))
noncomputable def ops18 : Array Oper := opsOf (fst (snd (snd tl11)))
theorem tl11_eq : tl11 = .seq (.region 11 ops11 false) (.seq (.seq (.region 12 ops12 false) (.block 2 (.loop lpQ))) (.seq (.region 18 ops18 false) .ret)) := rfl
theorem lpQ_eq : lpQ = .seq (.region 13 ops13 false) (.seq (.cond (.tmp 46) .skip (.exit 2)) (.seq (.block 3 (.seq (.region 14 ops14 false) (.seq (.region 15 ops15 false) (.cond (.tmp 56) (.region 16 ops16 false) .skip)))) (.region 17 ops17 false))) := rfl
theorem ops11_size : ops11.size = 4 := by kernel_rfl
theorem ops12_size : ops12.size = 6 := by kernel_rfl
theorem ops13_size : ops13.size = 1 := by kernel_rfl
theorem ops14_size : ops14.size = 6 := by kernel_rfl
theorem ops15_size : ops15.size = 7 := by kernel_rfl
theorem ops16_size : ops16.size = 5 := by kernel_rfl
theorem ops17_size : ops17.size = 2 := by kernel_rfl
theorem ops18_size : ops18.size = 2 := by kernel_rfl
section
variable {Sh : Loc → Prop} {w w' : World} {b : Frame} {cs : List Frame} {Stop : Goroutine → World → Prop} {T : Array Value} {ops : Array Oper} {j n : Nat} {is : List Nat} {k : List Item} {o : Oper} {x : Value}
theorem re_pv (hb : b.kind ≠ .early) (ho : ops[j]? = some o) (hw : Region.wanted o (yieldedT ops T) = true) (hv : evPure (offP Try.prog) (evalT T) o.op = some x) (h : RE Sh w Stop b cs n (putT T o.dst x) (.inRegion ops is :: k)) : RE Sh w Stop b cs (n + 1) T (.inRegion ops (j :: is) :: k) :=
 Reach.op wayE hb (offP_ok _) ho (by rw [show yielded ops T = yieldedT ops T from funext (yielded_eq ops T)]; exact hw) hv h
theorem dx_any {d : Nat} {es es' : Array Event} (hs : w.heap.size ≤ w'.heap.size) (he : ∀ e ∈ es, ∃ a wr, e = ⟨.cell a, wr, false⟩ ∧ a.block < w'.heap.size ∧ ¬ Sh (.cell a)) (hes : ∀ e ∈ es', e ∈ es) : DX Sh XT (w.at d) (w'.at d) es' := by
 refine ⟨fun e h' => ?_, hs, fun _ h => h⟩
 obtain ⟨a, wr, rfl, h1, h2⟩ := he e (hes e h')
 refine ⟨⟨fun y hy hss => ?_, by simp, by simp, h1⟩, trivial⟩
 simp only [MemAct.ofEvent, MemAct.touch?, Option.some.injEq] at hy
 subst hy
 exact absurd hss h2
theorem re_any (hb : b.kind ≠ .early) (ho : ops[j]? = some o) (hw : Region.wanted o (yieldedT ops T) = true) (hr : ∀ d, (execOp (evalT T) o).run Try.prog (w.at d) = .ok (.value x) (w'.at d)) (hs : w.heap.size ≤ w'.heap.size)
   (he : ∀ d, ∀ e ∈ (execOp (evalT T) o).events Try.prog (w.at d) #[], ∃ a wr, e = ⟨.cell a, wr, false⟩ ∧ a.block < w'.heap.size ∧ ¬ Sh (.cell a)) (h : RE Sh w' Stop b cs n (putT T o.dst x) (.inRegion ops is :: k)) : RE Sh w Stop b cs (n + 1) T (.inRegion ops (j :: is) :: k) := by
 rintro _ ⟨d, rfl⟩
 refine Goes.step rfl fun w₁ ⟨d', e⟩ => ?_
 subst e
 show (stepG Try.prog true (G (b.at ⟨T, []⟩ (.inRegion ops (j :: is) :: k)) cs) (w.at d')).goes _
 rw [stepG_value (a := ⟨T, []⟩) ho (wantedA hw) hb (by rw [evalA]; exact hr d'), putA]
 exact ⟨dx_any hs (he d') fun e h' => by have := mem_listed h'; rw [evalA] at this; exact this, h _ ⟨d', rfl⟩⟩
theorem re_skip (hb : b.kind ≠ .early) (ho : ops[j]? = some o) (hw : Region.wanted o (yieldedT ops T) = true) (hr : ∀ d, (execOp (evalT T) o).run Try.prog (w.at d) = .ok .skip (w'.at d)) (hs : w.heap.size ≤ w'.heap.size)
   (he : ∀ d, ∀ e ∈ (execOp (evalT T) o).events Try.prog (w.at d) #[], ∃ a wr, e = ⟨.cell a, wr, false⟩ ∧ a.block < w'.heap.size ∧ ¬ Sh (.cell a)) (h : RE Sh w' Stop b cs n (putT T o.dst undef) (.inRegion ops is :: k)) : RE Sh w Stop b cs (n + 1) T (.inRegion ops (j :: is) :: k) := by
 rintro _ ⟨d, rfl⟩
 refine Goes.step rfl fun w₁ ⟨d', e⟩ => ?_
 subst e
 show (stepG Try.prog true (G (b.at ⟨T, []⟩ (.inRegion ops (j :: is) :: k)) cs) (w.at d')).goes _
 rw [stepG_none (a := ⟨T, []⟩) ho (wantedA hw) hb (by rw [evalA]; exact hr d'), putA]
 exact ⟨dx_any hs (he d') fun e h' => by have := mem_listed h'; rw [evalA] at this; exact this, h _ ⟨d', rfl⟩⟩
theorem re_q (hb : b.kind ≠ .early) (ho : ops[j]? = some o) (hw : Region.wanted o (yieldedT ops T) = true) (hr : ∀ d, (execOp (evalT T) o).run Try.prog (w.at d) = .ok (.value x) (w.at d) ∧ (execOp (evalT T) o).events Try.prog (w.at d) #[] = #[])
   (h : RE Sh w Stop b cs n (putT T o.dst x) (.inRegion ops is :: k)) : RE Sh w Stop b cs (n + 1) T (.inRegion ops (j :: is) :: k) :=
 re_any hb ho hw (fun d => (hr d).1) (Nat.le_refl _) (fun d e he => by rw [(hr d).2] at he; simp at he) h
theorem re_ld (hb : b.kind ≠ .early) (ho : ops[j]? = some o) (hw : Region.wanted o (yieldedT ops T) = true) {a : Addr} (hr : ∀ d, (execOp (evalT T) o).run Try.prog (w.at d) = .ok (.value x) (w.at d) ∧ (execOp (evalT T) o).events Try.prog (w.at d) #[] = #[⟨.cell a, false, false⟩])
   (hc : w.cell? a = some x) (hn : ¬ Sh (.cell a)) (h : RE Sh w Stop b cs n (putT T o.dst x) (.inRegion ops is :: k)) : RE Sh w Stop b cs (n + 1) T (.inRegion ops (j :: is) :: k) :=
 re_any hb ho hw (fun d => (hr d).1) (Nat.le_refl _) (fun d e he => by rw [(hr d).2, Array.mem_singleton] at he; subst he; exact ⟨a, false, rfl, lt_of_cell hc, hn⟩) h
theorem re_push (hb : b.kind ≠ .early) (ho : ops[j]? = some o) (hw : Region.wanted o (yieldedT ops T) = true) {ob : Obj} (hr : ∀ d, (execOp (evalT T) o).run Try.prog (w.at d) = .ok (.value x) (({ w with heap := w.heap.push ob } : World).at d) ∧ (execOp (evalT T) o).events Try.prog (w.at d) #[] = #[])
   (h : RE Sh { w with heap := w.heap.push ob } Stop b cs n (putT T o.dst x) (.inRegion ops is :: k)) : RE Sh w Stop b cs (n + 1) T (.inRegion ops (j :: is) :: k) :=
 re_any hb ho hw (fun d => (hr d).1) (by simp) (fun d e he => by rw [(hr d).2] at he; simp at he) h
theorem re_run (hb : b.kind ≠ .early) (f : Nat) {k : List Item} (h : RE Sh w Stop b cs n (evRun (offP Try.prog) f T k).1 (evRun (offP Try.prog) f T k).2) : RE Sh w Stop b cs (n + f) T k := Reach.runs wayE hb (offP_ok _) f h
end
structure TP (C : Cfg) (V out m i : Nat) (T : Array Value) : Prop where
 size : T.size = 63
 s8 : evalT T (.tmp 8) = .pointer (some ⟨V, 0, none⟩)
 s12 : evalT T (.tmp 12) = .slice (some ⟨out, 0, none⟩) m C.n
 s43 : evalT T (.tmp 43) = .slice (some ⟨C.G, 0, none⟩) C.n C.n
 s44 : evalT T (.tmp 44) = .int .i64 C.n
 s45 : evalT T (.tmp 45) = .int .i64 i
theorem TP.put {C : Cfg} {V out m i : Nat} {T : Array Value} (h : TP C V out m i T) {t : Nat} (ht : ∀ s ∈ [8, 12, 43, 44, 45], s ≠ t) (ht2 : t < 63) (x : Value) : TP C V out m i (putT T (some t) x) := by
 have e : ∀ s : Nat, s ∈ [8, 12, 43, 44, 45] → evalT (putT T (some t) x) (.tmp s) = evalT T (.tmp s) := fun s hs => ev_ne h.size ht2 (ht s hs)
 exact ⟨by rw [size_putT]; exact h.size, (e 8 (by decide)).trans h.s8, (e 12 (by decide)).trans h.s12, (e 43 (by decide)).trans h.s43, (e 44 (by decide)).trans h.s44, (e 45 (by decide)).trans h.s45⟩
def pB (w : World) (a b : Int) : World := ((({ w with heap := w.heap.push (.cells #[.int .i64 0, .int .i64 0] 30) } : World).setCell ⟨w.heap.size, 0, none⟩ (.int .i64 a)).setCell ⟨w.heap.size, 1, none⟩ (.int .i64 b))
theorem pB_heap (w : World) (a b : Int) : (pB w a b).heap[w.heap.size]? = some (.cells #[.int .i64 a, .int .i64 b] 30) := by
 unfold pB
 have h0 : ({ w with heap := w.heap.push (.cells #[.int .i64 0, .int .i64 0] 30) } : World).heap[w.heap.size]? = some (.cells #[.int .i64 0, .int .i64 0] 30) := Array.getElem?_push_size
 exact (heap_at _ _ (heap_at _ _ h0)).trans rfl
theorem pB_old (w : World) (a b : Int) {y : Nat} (hy : y < w.heap.size) : (pB w a b).heap[y]? = w.heap[y]? := by
 unfold pB
 have h1 : y ≠ w.heap.size := by omega
 exact (heap_set _ _ _ y h1).trans ((heap_set _ _ _ y h1).trans (push_old w _ hy))
theorem pB_size (w : World) (a b : Int) : (pB w a b).heap.size = w.heap.size + 1 := by simp [pB, World.setCell]
theorem pB_cell {w : World} {a b : Int} {c : Addr} {z : Value} (h : w.cell? c = some z) : (pB w a b).cell? c = some z := (cell_of_block' (pB_old w a b (lt_of_cell h))).trans h
end Go.Proofs.Ytcoppnbjpncdcaa.Q
end
section
set_option linter.unusedVariables false
set_option linter.unusedSimpArgs false
namespace Go.Proofs.Ytcoppnbjpncdcaa.Q
open Go Go.Conc Go.Proofs.Ytcoppnbjpncdcaa.Sim
open Go.ConcR (mk KK WgAt wgBlock stA smA rd wr)
section
variable {Sh : Loc → Prop} {w : World} {cs : List Frame} {Stop : Goroutine → World → Prop} {T : Array Value} {C : Cfg} {V out m i f : Nat} {K : List Item}
theorem hb38 : (base 38).kind ≠ .early := by simp [base]
set_option maxHeartbeats 1000000 in
set_option maxRecDepth 100000 in
theorem roundP1 (A : C.Apart) (hi : i < C.n) (hT : TP C V out m i T) {a b : Int} {t : Bool}
   (hg0 : w.cell? ⟨C.G, 2 * i, none⟩ = some (.int .i64 a)) (hg1 : w.cell? ⟨C.G, 2 * i + 1, none⟩ = some (.int .i64 b)) (hh : w.cell? ⟨C.H, i, none⟩ = some (.bool t)) (hv : w.cell? ⟨V, 0, none⟩ = some (.pointer (some ⟨C.F, 0, none⟩))) (h3 : w.cell? ⟨C.F, 3, none⟩ = some (.slice (some ⟨C.H, 0, none⟩) C.n C.n))
   (nG : ∀ o, ¬ Sh (.cell ⟨C.G, o, none⟩)) (nH : ∀ o, ¬ Sh (.cell ⟨C.H, o, none⟩)) (nV : ¬ Sh (.cell ⟨V, 0, none⟩)) (nF : ¬ Sh (.cell ⟨C.F, 3, none⟩)) (nN : ∀ o, ¬ Sh (.cell ⟨w.heap.size, o, none⟩))
   (h : ∀ T', TP C V out m i T' → evalT T' (.tmp 56) = .bool t → evalT T' (.tmp 14) = .pointer (some ⟨w.heap.size, 0, none⟩) → RE Sh (pB w a b) Stop (base 38) cs f T' (.code (.cond (.tmp 56) (.region 16 ops16 false) .skip) :: .inBlock 3 :: .code (.region 17 ops17 false) :: K)) :
   RE Sh w Stop (base 38) cs (f + 40) T (.code lpQ :: K) := by
 rw [lpQ_eq]
 have hsz := hT.size
 refine Reach.more (n := (f + 38) + 2) (by omega) (re_run hb38 2 ?_)
 simp only [evRun, evStep, List.range, List.range.loop, ops13_size]
 refine Reach.more (n := (f + 37) + 1) (by omega) (re_pv hb38 (o := ops13[0]'(by rw [ops13_size]; decide)) (x := .bool true) rfl rfl ?_ ?_)
 · rw [show (ops13[0]'(by rw [ops13_size]; decide)).op = .binOp .lss 3 (.tmp 45) (.tmp 44) 3 from rfl]
   simp [evPure, hT.s45, hT.s44, intBin, hi]
 rw [show (ops13[0]'(by rw [ops13_size]; decide)).dst = some 46 from rfl]
 have h1 := hT.put (t := 46) (by decide) (by decide) (.bool true)
 have g46 : evalT (putT T (some 46) (.bool true)) (.tmp 46) = .bool true := ev_eq hsz (by decide)
 generalize putT T (some 46) (.bool true) = T1 at h1 g46 ⊢
 refine Reach.more (n := (f + 29) + 8) (by omega) (re_run hb38 8 ?_)
 simp only [evRun, evStep, g46, ops14_size, List.range, List.range.loop]
 refine Reach.more (n := (f + 28) + 1) (by omega) (re_pv hb38 (o := ops14[0]'(by rw [ops14_size]; decide)) (x := .int .i64 i) rfl rfl (by rw [show (ops14[0]'(by rw [ops14_size]; decide)).op = .move (.tmp 45) from rfl]; simp [evPure, h1.s45]) ?_)
 rw [show (ops14[0]'(by rw [ops14_size]; decide)).dst = some 47 from rfl]
 have h2 := h1.put (t := 47) (by decide) (by decide) (.int .i64 i)
 have k47 : evalT (putT T1 (some 47) (.int .i64 i)) (.tmp 47) = .int .i64 i := ev_eq h1.size (by decide)
 generalize putT T1 (some 47) (.int .i64 i) = T2 at h2 k47 ⊢
 refine Reach.more (n := (f + 27) + 1) (by omega) (re_q hb38 (o := ops14[1]'(by rw [ops14_size]; decide)) (x := .pointer (some ⟨C.G, 2 * i, none⟩)) rfl rfl (fun d => run_ix28 (x := .tmp 43) (y := .tmp 45) rfl h2.s43 h2.s45 hi) ?_)
 rw [show (ops14[1]'(by rw [ops14_size]; decide)).dst = some 48 from rfl]
 have h3' := h2.put (t := 48) (by decide) (by decide) (.pointer (some ⟨C.G, 2 * i, none⟩))
 have l48 : evalT (putT T2 (some 48) (.pointer (some ⟨C.G, 2 * i, none⟩))) (.tmp 48) = .pointer (some ⟨C.G, 2 * i, none⟩) := ev_eq h2.size (by decide)
 have l47 := (ev_ne (v := .pointer (some ⟨C.G, 2 * i, none⟩)) (s := 47) (t := 48) h2.size (by decide) (by decide)).trans k47
 generalize putT T2 (some 48) (.pointer (some ⟨C.G, 2 * i, none⟩)) = T3 at h3' l48 l47 ⊢
 refine Reach.more (n := (f + 26) + 1) (by omega) (re_any (w' := w) hb38 (o := ops14[2]'(by rw [ops14_size]; decide)) (x := .agg #[.int .i64 a, .int .i64 b]) rfl rfl (fun d => (run_ld30 (w := w.at d) (x := .tmp 48) rfl l48 hg0 hg1).1) (Nat.le_refl _) (fun d e he => ?_) ?_)
 · rw [(run_ld30 (w := w.at d) (x := .tmp 48) rfl l48 hg0 hg1).2] at he
   simp only [List.mem_toArray, List.mem_cons, List.not_mem_nil, or_false] at he
   rcases he with rfl | rfl
   · exact ⟨_, _, rfl, lt_of_cell hg0, nG _⟩
   · exact ⟨_, _, rfl, lt_of_cell hg1, nG _⟩
 rw [show (ops14[2]'(by rw [ops14_size]; decide)).dst = some 49 from rfl]
 have h4 := h3'.put (t := 49) (by decide) (by decide) (.agg #[.int .i64 a, .int .i64 b])
 have m49 : evalT (putT T3 (some 49) (.agg #[.int .i64 a, .int .i64 b])) (.tmp 49) = .agg #[.int .i64 a, .int .i64 b] := ev_eq h3'.size (by decide)
 have m47 := (ev_ne (v := .agg #[.int .i64 a, .int .i64 b]) (s := 47) (t := 49) h3'.size (by decide) (by decide)).trans l47
 generalize putT T3 (some 49) (.agg #[.int .i64 a, .int .i64 b]) = T4 at h4 m49 m47 ⊢
 refine Reach.more (n := (f + 25) + 1) (by omega) (re_push hb38 (o := ops14[3]'(by rw [ops14_size]; decide)) (ob := .cells #[.int .i64 0, .int .i64 0] 30) (x := .pointer (some ⟨w.heap.size, 0, none⟩)) rfl rfl (fun d => run_alloc30 (w := w.at d) rfl) ?_)
 rw [show (ops14[3]'(by rw [ops14_size]; decide)).dst = some 14 from rfl]
 have h5 := h4.put (t := 14) (by decide) (by decide) (.pointer (some ⟨w.heap.size, 0, none⟩))
 have n14 : evalT (putT T4 (some 14) (.pointer (some ⟨w.heap.size, 0, none⟩))) (.tmp 14) = .pointer (some ⟨w.heap.size, 0, none⟩) := ev_eq h4.size (by decide)
 have n47 := (ev_ne (v := .pointer (some ⟨w.heap.size, 0, none⟩)) (s := 47) (t := 14) h4.size (by decide) (by decide)).trans m47
 have n49 := (ev_ne (v := .pointer (some ⟨w.heap.size, 0, none⟩)) (s := 49) (t := 14) h4.size (by decide) (by decide)).trans m49
 generalize putT T4 (some 14) (.pointer (some ⟨w.heap.size, 0, none⟩)) = T5 at h5 n14 n47 n49 ⊢
 refine Reach.more (n := (f + 24) + 1) (by omega) (re_pv hb38 (o := ops14[4]'(by rw [ops14_size]; decide)) (x := .int .i64 i) rfl rfl (by rw [show (ops14[4]'(by rw [ops14_size]; decide)).op = .assign (.tmp 47) from rfl]; simp [evPure, n47]) ?_)
 rw [show (ops14[4]'(by rw [ops14_size]; decide)).dst = some 13 from rfl]
 have h6 := h5.put (t := 13) (by decide) (by decide) (.int .i64 i)
 have o13 : evalT (putT T5 (some 13) (.int .i64 i)) (.tmp 13) = .int .i64 i := ev_eq h5.size (by decide)
 have o14 := (ev_ne (v := .int .i64 i) (s := 14) (t := 13) h5.size (by decide) (by decide)).trans n14
 have o49 := (ev_ne (v := .int .i64 i) (s := 49) (t := 13) h5.size (by decide) (by decide)).trans n49
 generalize putT T5 (some 13) (.int .i64 i) = T6 at h6 o13 o14 o49 ⊢
 have hnew : ({ w with heap := w.heap.push (.cells #[.int .i64 0, .int .i64 0] 30) } : World).heap[w.heap.size]? = some (.cells #[.int .i64 0, .int .i64 0] 30) := Array.getElem?_push_size
 have hst : ∀ d, (execOp (evalT T6) (ops14[5]'(by rw [ops14_size]; decide))).run Try.prog (({ w with heap := w.heap.push (.cells #[.int .i64 0, .int .i64 0] 30) } : World).at d) = .ok .skip ((pB w a b).at d) ∧
     (execOp (evalT T6) (ops14[5]'(by rw [ops14_size]; decide))).events Try.prog (({ w with heap := w.heap.push (.cells #[.int .i64 0, .int .i64 0] 30) } : World).at d) #[] = #[⟨.cell ⟨w.heap.size, 0, none⟩, true, false⟩, ⟨.cell ⟨w.heap.size, 1, none⟩, true, false⟩] := fun d => by
   have hnd : (({ w with heap := w.heap.push (.cells #[.int .i64 0, .int .i64 0] 30) } : World).at d).heap[w.heap.size]? = some (.cells #[.int .i64 0, .int .i64 0] 30) := hnew
   have hh2 := heap_at (off := 0) (({ w with heap := w.heap.push (.cells #[.int .i64 0, .int .i64 0] 30) } : World).at d) (.int .i64 a) hnd
   exact run_st30 (w := ({ w with heap := w.heap.push (.cells #[.int .i64 0, .int .i64 0] 30) } : World).at d) (o := ops14[5]'(by rw [ops14_size]; decide)) (x := .tmp 14) (y := .tmp 49) (u1 := .int .i64 0) (u2 := .int .i64 0) rfl o14 o49 (by unfold World.cell?; rw [hnd]; rfl) (by unfold World.frozen?; rw [hnd]; rfl) (by unfold World.cell?; rw [hh2]; rfl) (by unfold World.frozen?; rw [hh2]; rfl)
 refine Reach.more (n := (f + 23) + 1) (by omega) (re_skip (w' := pB w a b) hb38 (o := ops14[5]'(by rw [ops14_size]; decide)) rfl rfl (fun d => (hst d).1) (by rw [pB_size]; simp) (fun d e he => ?_) ?_)
 · rw [(hst d).2] at he
   simp only [List.mem_toArray, List.mem_cons, List.not_mem_nil, or_false] at he
   rcases he with rfl | rfl
   · exact ⟨_, _, rfl, by rw [pB_size]; exact Nat.lt_succ_self _, nN _⟩
   · exact ⟨_, _, rfl, by rw [pB_size]; exact Nat.lt_succ_self _, nN _⟩
 rw [show (ops14[5]'(by rw [ops14_size]; decide)).dst = none from rfl, putT_none]
 have hv1 := pB_cell (a := a) (b := b) hv
 have h31 := pB_cell (a := a) (b := b) h3
 have hh1 := pB_cell (a := a) (b := b) hh
 generalize hM : w.heap.size = M at *
 generalize pB w a b = w1 at *
 clear hnew hst hg0 hg1 hh hv h3 nN
 refine Reach.more (n := (f + 20) + 3) (by omega) (re_run hb38 3 ?_)
 simp only [evRun, evStep, ops15_size, List.range, List.range.loop]
 refine Reach.more (n := (f + 19) + 1) (by omega) (re_ld hb38 (o := ops15[0]'(by rw [ops15_size]; decide)) (x := .pointer (some ⟨C.F, 0, none⟩)) (a := ⟨V, 0, none⟩) rfl rfl (fun d => run_ld1 (w := w1.at d) (ty := 65) (x := .tmp 8) rfl h6.s8 hv1 (.inr (.inl rfl))) hv1 nV ?_)
 rw [show (ops15[0]'(by rw [ops15_size]; decide)).dst = some 50 from rfl]
 have j7 := h6.put (t := 50) (by decide) (by decide) (.pointer (some ⟨C.F, 0, none⟩))
 have p50 : evalT (putT T6 (some 50) (.pointer (some ⟨C.F, 0, none⟩))) (.tmp 50) = .pointer (some ⟨C.F, 0, none⟩) := ev_eq h6.size (by decide)
 have p13 := (ev_ne (v := .pointer (some ⟨C.F, 0, none⟩)) (s := 13) (t := 50) h6.size (by decide) (by decide)).trans o13
 have p14 := (ev_ne (v := .pointer (some ⟨C.F, 0, none⟩)) (s := 14) (t := 50) h6.size (by decide) (by decide)).trans o14
 generalize putT T6 (some 50) (.pointer (some ⟨C.F, 0, none⟩)) = T7 at j7 p50 p13 p14 ⊢
 refine Reach.more (n := (f + 18) + 1) (by omega) (re_pv hb38 (o := ops15[1]'(by rw [ops15_size]; decide)) (x := .pointer (some ⟨C.F, 0, none⟩)) rfl rfl (by rw [show (ops15[1]'(by rw [ops15_size]; decide)).op = .nilCheck (.tmp 50) from rfl]; simp [evPure, p50]) ?_)
 rw [show (ops15[1]'(by rw [ops15_size]; decide)).dst = some 51 from rfl]
 have j8 := j7.put (t := 51) (by decide) (by decide) (.pointer (some ⟨C.F, 0, none⟩))
 have q51 : evalT (putT T7 (some 51) (.pointer (some ⟨C.F, 0, none⟩))) (.tmp 51) = .pointer (some ⟨C.F, 0, none⟩) := ev_eq j7.size (by decide)
 have q13 := (ev_ne (v := .pointer (some ⟨C.F, 0, none⟩)) (s := 13) (t := 51) j7.size (by decide) (by decide)).trans p13
 have q14 := (ev_ne (v := .pointer (some ⟨C.F, 0, none⟩)) (s := 14) (t := 51) j7.size (by decide) (by decide)).trans p14
 generalize putT T7 (some 51) (.pointer (some ⟨C.F, 0, none⟩)) = T8 at j8 q51 q13 q14 ⊢
 refine Reach.more (n := (f + 17) + 1) (by omega) (re_pv hb38 (o := ops15[2]'(by rw [ops15_size]; decide)) (x := .pointer (some ⟨C.F, 3, none⟩)) rfl rfl (by rw [show (ops15[2]'(by rw [ops15_size]; decide)).op = .fieldAddr 75 (.tmp 51) 2 from rfl]; simp [evPure, q51, off75_2, Addr.add]) ?_)
 rw [show (ops15[2]'(by rw [ops15_size]; decide)).dst = some 52 from rfl]
 have j9 := j8.put (t := 52) (by decide) (by decide) (.pointer (some ⟨C.F, 3, none⟩))
 have r52 : evalT (putT T8 (some 52) (.pointer (some ⟨C.F, 3, none⟩))) (.tmp 52) = .pointer (some ⟨C.F, 3, none⟩) := ev_eq j8.size (by decide)
 have r13 := (ev_ne (v := .pointer (some ⟨C.F, 3, none⟩)) (s := 13) (t := 52) j8.size (by decide) (by decide)).trans q13
 have r14 := (ev_ne (v := .pointer (some ⟨C.F, 3, none⟩)) (s := 14) (t := 52) j8.size (by decide) (by decide)).trans q14
 generalize putT T8 (some 52) (.pointer (some ⟨C.F, 3, none⟩)) = T9 at j9 r52 r13 r14 ⊢
 refine Reach.more (n := (f + 16) + 1) (by omega) (re_ld hb38 (o := ops15[3]'(by rw [ops15_size]; decide)) (x := .slice (some ⟨C.H, 0, none⟩) C.n C.n) (a := ⟨C.F, 3, none⟩) rfl rfl (fun d => run_ld1 (w := w1.at d) (ty := 66) (x := .tmp 52) rfl r52 h31 (.inr (.inr (.inr rfl)))) h31 nF ?_)
 rw [show (ops15[3]'(by rw [ops15_size]; decide)).dst = some 53 from rfl]
 have j10 := j9.put (t := 53) (by decide) (by decide) (.slice (some ⟨C.H, 0, none⟩) C.n C.n)
 have s53 : evalT (putT T9 (some 53) (.slice (some ⟨C.H, 0, none⟩) C.n C.n)) (.tmp 53) = .slice (some ⟨C.H, 0, none⟩) C.n C.n := ev_eq j9.size (by decide)
 have s13 := (ev_ne (v := .slice (some ⟨C.H, 0, none⟩) C.n C.n) (s := 13) (t := 53) j9.size (by decide) (by decide)).trans r13
 have s14 := (ev_ne (v := .slice (some ⟨C.H, 0, none⟩) C.n C.n) (s := 14) (t := 53) j9.size (by decide) (by decide)).trans r14
 generalize putT T9 (some 53) (.slice (some ⟨C.H, 0, none⟩) C.n C.n) = T10 at j10 s53 s13 s14 ⊢
 refine Reach.more (n := (f + 15) + 1) (by omega) (re_pv hb38 (o := ops15[4]'(by rw [ops15_size]; decide)) (x := .int .i64 i) rfl rfl (by rw [show (ops15[4]'(by rw [ops15_size]; decide)).op = .move (.tmp 13) from rfl]; simp [evPure, s13]) ?_)
 rw [show (ops15[4]'(by rw [ops15_size]; decide)).dst = some 54 from rfl]
 have j11 := j10.put (t := 54) (by decide) (by decide) (.int .i64 i)
 have t54 : evalT (putT T10 (some 54) (.int .i64 i)) (.tmp 54) = .int .i64 i := ev_eq j10.size (by decide)
 have t53 := (ev_ne (v := .int .i64 i) (s := 53) (t := 54) j10.size (by decide) (by decide)).trans s53
 have t14 := (ev_ne (v := .int .i64 i) (s := 14) (t := 54) j10.size (by decide) (by decide)).trans s14
 generalize putT T10 (some 54) (.int .i64 i) = T11 at j11 t54 t53 t14 ⊢
 refine Reach.more (n := (f + 14) + 1) (by omega) (re_q hb38 (o := ops15[5]'(by rw [ops15_size]; decide)) (x := .pointer (some ⟨C.H, i, none⟩)) rfl rfl (fun d => run_ix66 (x := .tmp 53) (y := .tmp 54) rfl t53 t54 hi) ?_)
 rw [show (ops15[5]'(by rw [ops15_size]; decide)).dst = some 55 from rfl]
 have j12 := j11.put (t := 55) (by decide) (by decide) (.pointer (some ⟨C.H, i, none⟩))
 have u55 : evalT (putT T11 (some 55) (.pointer (some ⟨C.H, i, none⟩))) (.tmp 55) = .pointer (some ⟨C.H, i, none⟩) := ev_eq j11.size (by decide)
 have u14 := (ev_ne (v := .pointer (some ⟨C.H, i, none⟩)) (s := 14) (t := 55) j11.size (by decide) (by decide)).trans t14
 generalize putT T11 (some 55) (.pointer (some ⟨C.H, i, none⟩)) = T12 at j12 u55 u14 ⊢
 refine Reach.more (n := (f + 13) + 1) (by omega) (re_ld hb38 (o := ops15[6]'(by rw [ops15_size]; decide)) (x := .bool t) (a := ⟨C.H, i, none⟩) rfl rfl (fun d => run_ld4 (w := w1.at d) (x := .tmp 55) rfl u55 hh1) hh1 (nH _) ?_)
 rw [show (ops15[6]'(by rw [ops15_size]; decide)).dst = some 56 from rfl]
 have j13 := j12.put (t := 56) (by decide) (by decide) (.bool t)
 have v56 : evalT (putT T12 (some 56) (.bool t)) (.tmp 56) = .bool t := ev_eq j12.size (by decide)
 have v14 := (ev_ne (v := .bool t) (s := 14) (t := 56) j12.size (by decide) (by decide)).trans u14
 generalize putT T12 (some 56) (.bool t) = T13 at j13 v56 v14 ⊢
 refine Reach.more (n := (f + 12) + 1) (by omega) (re_run hb38 1 ?_)
 simp only [evRun, evStep]
 exact Reach.more (by omega) (h T13 j13 v56 v14)
end
end Go.Proofs.Ytcoppnbjpncdcaa.Q
end
section
set_option linter.unusedVariables false
set_option linter.unusedSimpArgs false
namespace Go.Proofs.Ytcoppnbjpncdcaa.Q
open Go Go.Conc Go.Proofs.Ytcoppnbjpncdcaa.Sim
open Go.ConcR (mk KK WgAt wgBlock stA smA rd wr)
section
variable {Sh : Loc → Prop} {w : World} {cs : List Frame} {Stop : Goroutine → World → Prop} {T : Array Value} {C : Cfg} {V out m i f : Nat} {K : List Item}
set_option maxHeartbeats 1000000 in
set_option maxRecDepth 100000 in
theorem roundP2 (hm : m < C.n) (hT : TP C V out m i T) {r : Nat} {a b : Int} (h14 : evalT T (.tmp 14) = .pointer (some ⟨r, 0, none⟩)) (hb : w.heap[r]? = some (.cells #[.int .i64 a, .int .i64 b] 30)) (hr : Row C.n out w)
   (nR : ∀ o, ¬ Sh (.cell ⟨r, o, none⟩)) (nO : ∀ o, ¬ Sh (.cell ⟨out, o, none⟩)) (nN : ∀ o, ¬ Sh (.cell ⟨w.heap.size, o, none⟩))
   (h : ∀ T', TP C V out (m + 1) i T' → RE Sh (aW (pC w a b) out m a b) Stop (base 38) cs f T' K) :
   RE Sh w Stop (base 38) cs (f + 10) T (.code (.region 16 ops16 false) :: K) := by
 have hc0 : w.cell? ⟨r, 0, none⟩ = some (.int .i64 a) := by unfold World.cell?; rw [hb]; rfl
 have hc1 : w.cell? ⟨r, 1, none⟩ = some (.int .i64 b) := by unfold World.cell?; rw [hb]; rfl
 refine Reach.more (n := (f + 9) + 1) (by omega) (re_run hb38 1 ?_)
 simp only [evRun, evStep, ops16_size, List.range, List.range.loop]
 refine Reach.more (n := (f + 8) + 1) (by omega) (re_pv hb38 (o := ops16[0]'(by rw [ops16_size]; decide)) (x := .slice (some ⟨out, 0, none⟩) m C.n) rfl rfl (by rw [show (ops16[0]'(by rw [ops16_size]; decide)).op = .move (.tmp 12) from rfl]; simp [evPure, hT.s12]) ?_)
 rw [show (ops16[0]'(by rw [ops16_size]; decide)).dst = some 57 from rfl]
 have h1 := hT.put (t := 57) (by decide) (by decide) (.slice (some ⟨out, 0, none⟩) m C.n)
 have g57 : evalT (putT T (some 57) (.slice (some ⟨out, 0, none⟩) m C.n)) (.tmp 57) = .slice (some ⟨out, 0, none⟩) m C.n := ev_eq hT.size (by decide)
 have g14 := (ev_ne (v := .slice (some ⟨out, 0, none⟩) m C.n) (s := 14) (t := 57) hT.size (by decide) (by decide)).trans h14
 generalize putT T (some 57) (.slice (some ⟨out, 0, none⟩) m C.n) = T1 at h1 g57 g14 ⊢
 refine Reach.more (n := (f + 7) + 1) (by omega) (re_any (w' := w) hb38 (o := ops16[1]'(by rw [ops16_size]; decide)) (x := .agg #[.int .i64 a, .int .i64 b]) rfl rfl (fun d => (run_ld30 (w := w.at d) (x := .tmp 14) rfl g14 hc0 hc1).1) (Nat.le_refl _) (fun d e he => ?_) ?_)
 · rw [(run_ld30 (w := w.at d) (x := .tmp 14) rfl g14 hc0 hc1).2] at he
   simp only [List.mem_toArray, List.mem_cons, List.not_mem_nil, or_false] at he
   rcases he with rfl | rfl
   · exact ⟨_, _, rfl, lt_of_cell hc0, nR _⟩
   · exact ⟨_, _, rfl, lt_of_cell hc1, nR _⟩
 rw [show (ops16[1]'(by rw [ops16_size]; decide)).dst = some 58 from rfl]
 have h2 := h1.put (t := 58) (by decide) (by decide) (.agg #[.int .i64 a, .int .i64 b])
 have k58 : evalT (putT T1 (some 58) (.agg #[.int .i64 a, .int .i64 b])) (.tmp 58) = .agg #[.int .i64 a, .int .i64 b] := ev_eq h1.size (by decide)
 have k57 := (ev_ne (v := .agg #[.int .i64 a, .int .i64 b]) (s := 57) (t := 58) h1.size (by decide) (by decide)).trans g57
 generalize putT T1 (some 58) (.agg #[.int .i64 a, .int .i64 b]) = T2 at h2 k58 k57 ⊢
 refine Reach.more (n := (f + 6) + 1) (by omega) (re_push hb38 (o := ops16[2]'(by rw [ops16_size]; decide)) (ob := .cells #[.int .i64 a, .int .i64 b] 30) (x := .slice (some ⟨w.heap.size, 0, none⟩) 1 1) rfl rfl (fun d => run_bs (w := w.at d) (x := .tmp 58) rfl k58) ?_)
 rw [show (ops16[2]'(by rw [ops16_size]; decide)).dst = some 59 from rfl]
 have h3 := h2.put (t := 59) (by decide) (by decide) (.slice (some ⟨w.heap.size, 0, none⟩) 1 1)
 have l59 : evalT (putT T2 (some 59) (.slice (some ⟨w.heap.size, 0, none⟩) 1 1)) (.tmp 59) = .slice (some ⟨w.heap.size, 0, none⟩) 1 1 := ev_eq h2.size (by decide)
 have l57 := (ev_ne (v := .slice (some ⟨w.heap.size, 0, none⟩) 1 1) (s := 57) (t := 59) h2.size (by decide) (by decide)).trans k57
 generalize putT T2 (some 59) (.slice (some ⟨w.heap.size, 0, none⟩) 1 1) = T3 at h3 l59 l57 ⊢
 have hr' : Row C.n out (pC w a b) := hr.push _
 have hnew : (pC w a b).heap[w.heap.size]? = some (.cells #[.int .i64 a, .int .i64 b] 30) := by
   show (w.heap.push _)[w.heap.size]? = _
   exact Array.getElem?_push_size
 have d0 : (pC w a b).cell? ⟨w.heap.size, 0, none⟩ = some (.int .i64 a) := by unfold World.cell?; rw [hnew]; rfl
 have d1 : (pC w a b).cell? ⟨w.heap.size, 1, none⟩ = some (.int .i64 b) := by unfold World.cell?; rw [hnew]; rfl
 obtain ⟨⟨u1, k1⟩, z1, ⟨u2, k2⟩, z2⟩ := hr'.cells (x := a) hm
 have happ := fun d => run_ap (w := (pC w a b).at d) (ρ := evalT T3) (o := ops16[3]'(by rw [ops16_size]; decide)) (x := .tmp 57) (y := .tmp 59) rfl l57 l59 hm d0 d1 k1 k2 z1 z2
 have hol : out < (pC w a b).heap.size := by obtain ⟨_, _, q⟩ := hr'; exact (Array.getElem?_eq_some_iff.1 q).1
 have hwl : w.heap.size < (pC w a b).heap.size := by simp [pC]
 have hsz : (aW (pC w a b) out m a b).heap.size = (pC w a b).heap.size := by simp [aW, World.setCell]
 refine Reach.more (n := (f + 5) + 1) (by omega) (re_any (w := pC w a b) (w' := aW (pC w a b) out m a b) hb38 (o := ops16[3]'(by rw [ops16_size]; decide)) (x := .slice (some ⟨out, 0, none⟩) (m + 1) C.n) rfl rfl (fun d => (happ d).1) (by rw [hsz]; exact Nat.le_refl _) (fun d e he => ?_) ?_)
 · rcases (happ d).2 e he with rfl | rfl | rfl | rfl
   · exact ⟨_, _, rfl, by rw [hsz]; exact hwl, nN _⟩
   · exact ⟨_, _, rfl, by rw [hsz]; exact hwl, nN _⟩
   · exact ⟨_, _, rfl, by rw [hsz]; exact hol, nO _⟩
   · exact ⟨_, _, rfl, by rw [hsz]; exact hol, nO _⟩
 rw [show (ops16[3]'(by rw [ops16_size]; decide)).dst = some 60 from rfl]
 have h4 := h3.put (t := 60) (by decide) (by decide) (.slice (some ⟨out, 0, none⟩) (m + 1) C.n)
 have m60 : evalT (putT T3 (some 60) (.slice (some ⟨out, 0, none⟩) (m + 1) C.n)) (.tmp 60) = .slice (some ⟨out, 0, none⟩) (m + 1) C.n := ev_eq h3.size (by decide)
 generalize putT T3 (some 60) (.slice (some ⟨out, 0, none⟩) (m + 1) C.n) = T4 at h4 m60 ⊢
 refine Reach.more (n := (f + 4) + 1) (by omega) (re_pv hb38 (o := ops16[4]'(by rw [ops16_size]; decide)) (x := .slice (some ⟨out, 0, none⟩) (m + 1) C.n) rfl rfl (by rw [show (ops16[4]'(by rw [ops16_size]; decide)).op = .assign (.tmp 60) from rfl]; simp [evPure, m60]) ?_)
 rw [show (ops16[4]'(by rw [ops16_size]; decide)).dst = some 12 from rfl]
 have h5 : TP C V out (m + 1) i (putT T4 (some 12) (.slice (some ⟨out, 0, none⟩) (m + 1) C.n)) := by
   have e : ∀ s : Nat, s ≠ 12 → evalT (putT T4 (some 12) (.slice (some ⟨out, 0, none⟩) (m + 1) C.n)) (.tmp s) = evalT T4 (.tmp s) := fun s hs => ev_ne h4.size (by decide) hs
   exact ⟨by rw [size_putT]; exact h4.size, (e 8 (by decide)).trans h4.s8, ev_eq h4.size (by decide), (e 43 (by decide)).trans h4.s43, (e 44 (by decide)).trans h4.s44, (e 45 (by decide)).trans h4.s45⟩
 generalize putT T4 (some 12) (.slice (some ⟨out, 0, none⟩) (m + 1) C.n) = T5 at h5 ⊢
 refine Reach.more (n := (f + 3) + 1) (by omega) (re_run hb38 1 ?_)
 simp only [evRun, evStep]
 exact Reach.more (by omega) (h T5 h5)
set_option maxRecDepth 100000 in
theorem roundP3 (hi : i < C.n) (hn : C.n ≤ 9) (hT : TP C V out m i T) (h : ∀ T', TP C V out m (i + 1) T' → RE Sh w Stop (base 38) cs f T' (.code lpQ :: .inLoop lpQ :: K)) :
   RE Sh w Stop (base 38) cs (f + 10) T (.inBlock 3 :: .code (.region 17 ops17 false) :: .inLoop lpQ :: K) := by
 refine Reach.more (n := (f + 8) + 2) (by omega) (re_run hb38 2 ?_)
 simp only [evRun, evStep, ops17_size, List.range, List.range.loop]
 refine Reach.more (n := (f + 7) + 1) (by omega) (re_pv hb38 (o := ops17[0]'(by rw [ops17_size]; decide)) (x := .int .i64 (i + 1 : Nat)) rfl rfl ?_ ?_)
 · rw [show (ops17[0]'(by rw [ops17_size]; decide)).op = .binOp .add 3 (.tmp 45) (.const (.int .i64 1)) 3 from rfl]
   simp [evPure, hT.s45, evalT_const, intBin, wrap_succ hi hn]
 rw [show (ops17[0]'(by rw [ops17_size]; decide)).dst = some 61 from rfl]
 have h1 := hT.put (t := 61) (by decide) (by decide) (.int .i64 (i + 1 : Nat))
 have g61 : evalT (putT T (some 61) (.int .i64 (i + 1 : Nat))) (.tmp 61) = .int .i64 (i + 1 : Nat) := ev_eq hT.size (by decide)
 generalize putT T (some 61) (.int .i64 (i + 1 : Nat)) = T1 at h1 g61 ⊢
 refine Reach.more (n := (f + 6) + 1) (by omega) (re_pv hb38 (o := ops17[1]'(by rw [ops17_size]; decide)) (x := .int .i64 (i + 1 : Nat)) rfl rfl ?_ ?_)
 · rw [show (ops17[1]'(by rw [ops17_size]; decide)).op = .move (.tmp 61) from rfl]
   simp [evPure, g61]
 rw [show (ops17[1]'(by rw [ops17_size]; decide)).dst = some 45 from rfl]
 have h2 : TP C V out m (i + 1) (putT T1 (some 45) (.int .i64 (i + 1 : Nat))) := by
   have e : ∀ s : Nat, s ≠ 45 → evalT (putT T1 (some 45) (.int .i64 (i + 1 : Nat))) (.tmp s) = evalT T1 (.tmp s) := fun s hs => ev_ne h1.size (by decide) hs
   exact ⟨by rw [size_putT]; exact h1.size, (e 8 (by decide)).trans h1.s8, (e 12 (by decide)).trans h1.s12, (e 43 (by decide)).trans h1.s43, (e 44 (by decide)).trans h1.s44, ev_eq h1.size (by decide)⟩
 generalize putT T1 (some 45) (.int .i64 (i + 1 : Nat)) = T2 at h2 ⊢
 refine Reach.more (n := (f + 5) + 1) (by omega) (re_run hb38 1 ?_)
 simp only [evRun, evStep]
 exact Reach.more (n := (f + 4) + 1) (by omega) (Reach.inLoop wayE (Reach.more (by omega) (h T2 h2)))
set_option maxRecDepth 100000 in
theorem exitP (hT : TP C V out m C.n T) (h : ∀ T', T'.size = 63 → evalT T' (.tmp 6) = .slice (some ⟨out, 0, none⟩) m C.n → RE Sh w Stop (base 38) cs f T' [.code .ret]) :
   RE Sh w Stop (base 38) cs (f + 20) T [.code lpQ, .inLoop lpQ, .inBlock 2, .code (.seq (.region 18 ops18 false) .ret)] := by
 rw [lpQ_eq]
 have hsz := hT.size
 refine Reach.more (n := (f + 18) + 2) (by omega) (re_run hb38 2 ?_)
 simp only [evRun, evStep, ops13_size, List.range, List.range.loop]
 refine Reach.more (n := (f + 17) + 1) (by omega) (re_pv hb38 (o := ops13[0]'(by rw [ops13_size]; decide)) (x := .bool false) rfl rfl ?_ ?_)
 · rw [show (ops13[0]'(by rw [ops13_size]; decide)).op = .binOp .lss 3 (.tmp 45) (.tmp 44) 3 from rfl]
   simp [evPure, hT.s45, hT.s44, intBin]
 rw [show (ops13[0]'(by rw [ops13_size]; decide)).dst = some 46 from rfl]
 have h1 := hT.put (t := 46) (by decide) (by decide) (.bool false)
 have g46 : evalT (putT T (some 46) (.bool false)) (.tmp 46) = .bool false := ev_eq hsz (by decide)
 generalize putT T (some 46) (.bool false) = T1 at h1 g46 ⊢
 refine Reach.more (n := (f + 11) + 6) (by omega) (re_run hb38 6 ?_)
 simp only [evRun, evStep, g46, exitTo, beq_self_eq_true, ↓reduceIte, ops18_size, List.range, List.range.loop]
 refine Reach.more (n := (f + 10) + 1) (by omega) (re_pv hb38 (o := ops18[0]'(by rw [ops18_size]; decide)) (x := .slice (some ⟨out, 0, none⟩) m C.n) rfl rfl ?_ ?_)
 · rw [show (ops18[0]'(by rw [ops18_size]; decide)).op = .move (.tmp 12) from rfl]
   simp [evPure, h1.s12]
 rw [show (ops18[0]'(by rw [ops18_size]; decide)).dst = some 62 from rfl]
 have g62 : evalT (putT T1 (some 62) (.slice (some ⟨out, 0, none⟩) m C.n)) (.tmp 62) = .slice (some ⟨out, 0, none⟩) m C.n := ev_eq h1.size (by decide)
 have z2 : (putT T1 (some 62) (.slice (some ⟨out, 0, none⟩) m C.n)).size = 63 := by rw [size_putT]; exact h1.size
 generalize putT T1 (some 62) (.slice (some ⟨out, 0, none⟩) m C.n) = T2 at g62 z2 ⊢
 refine Reach.more (n := (f + 9) + 1) (by omega) (re_pv hb38 (o := ops18[1]'(by rw [ops18_size]; decide)) (x := .slice (some ⟨out, 0, none⟩) m C.n) rfl rfl ?_ ?_)
 · rw [show (ops18[1]'(by rw [ops18_size]; decide)).op = .assign (.tmp 62) from rfl]
   simp [evPure, g62]
 rw [show (ops18[1]'(by rw [ops18_size]; decide)).dst = some 6 from rfl]
 have g6 : evalT (putT T2 (some 6) (.slice (some ⟨out, 0, none⟩) m C.n)) (.tmp 6) = .slice (some ⟨out, 0, none⟩) m C.n := ev_eq z2 (by decide)
 have z3 : (putT T2 (some 6) (.slice (some ⟨out, 0, none⟩) m C.n)).size = 63 := by rw [size_putT]; exact z2
 generalize putT T2 (some 6) (.slice (some ⟨out, 0, none⟩) m C.n) = T3 at g6 z3 ⊢
 refine Reach.more (n := (f + 8) + 1) (by omega) (re_run hb38 1 ?_)
 simp only [evRun, evStep]
 exact Reach.more (by omega) (h T3 z3 g6)
set_option maxHeartbeats 1000000 in
set_option maxRecDepth 100000 in
theorem begP (hn : C.n ≤ 9) (hsz : T.size = 63) {sl : Value} {p : Option Addr} {c : Nat} (h7 : evalT T (.tmp 7) = .slice p C.n c) (h8 : evalT T (.tmp 8) = .pointer (some ⟨V, 0, none⟩))
   (hv : w.cell? ⟨V, 0, none⟩ = some (.pointer (some ⟨C.F, 0, none⟩))) (h2 : w.cell? ⟨C.F, 2, none⟩ = some (.slice (some ⟨C.G, 0, none⟩) C.n C.n)) (nV : ¬ Sh (.cell ⟨V, 0, none⟩)) (nF : ¬ Sh (.cell ⟨C.F, 2, none⟩))
   (h : ∀ T', TP C V w.heap.size 0 0 T' → RE Sh { w with heap := w.heap.push (.cells (Array.replicate (2 * C.n) (.int .i64 0)) 30) } Stop (base 38) cs f T' [.code lpQ, .inLoop lpQ, .inBlock 2, .code (.seq (.region 18 ops18 false) .ret)]) :
   RE Sh w Stop (base 38) cs (f + 30) T [.inRegion ops10 [], .code tl11] := by
 rw [tl11_eq]
 refine Reach.more (n := (f + 27) + 3) (by omega) (re_run hb38 3 ?_)
 simp only [evRun, evStep, ops11_size, List.range, List.range.loop]
 refine Reach.more (n := (f + 26) + 1) (by omega) (re_pv hb38 (o := ops11[0]'(by rw [ops11_size]; decide)) (x := .slice p C.n c) rfl rfl (by rw [show (ops11[0]'(by rw [ops11_size]; decide)).op = .move (.tmp 7) from rfl]; simp [evPure, h7]) ?_)
 rw [show (ops11[0]'(by rw [ops11_size]; decide)).dst = some 37 from rfl]
 have g37 : evalT (putT T (some 37) (.slice p C.n c)) (.tmp 37) = .slice p C.n c := ev_eq hsz (by decide)
 have g8 := (ev_ne (v := .slice p C.n c) (s := 8) (t := 37) hsz (by decide) (by decide)).trans h8
 have z1 : (putT T (some 37) (.slice p C.n c)).size = 63 := by rw [size_putT]; exact hsz
 generalize putT T (some 37) (.slice p C.n c) = T1 at g37 g8 z1 ⊢
 refine Reach.more (n := (f + 25) + 1) (by omega) (re_q hb38 (o := ops11[1]'(by rw [ops11_size]; decide)) (x := .int .i64 C.n) rfl rfl (fun d => run_len28 (x := .tmp 37) (ats := #[28]) rfl rfl g37) ?_)
 rw [show (ops11[1]'(by rw [ops11_size]; decide)).dst = some 38 from rfl]
 have k38 : evalT (putT T1 (some 38) (.int .i64 C.n)) (.tmp 38) = .int .i64 C.n := ev_eq z1 (by decide)
 have k8 := (ev_ne (v := .int .i64 C.n) (s := 8) (t := 38) z1 (by decide) (by decide)).trans g8
 have z2 : (putT T1 (some 38) (.int .i64 C.n)).size = 63 := by rw [size_putT]; exact z1
 generalize putT T1 (some 38) (.int .i64 C.n) = T2 at k38 k8 z2 ⊢
 refine Reach.more (n := (f + 24) + 1) (by omega) (re_push hb38 (o := ops11[2]'(by rw [ops11_size]; decide)) (ob := .cells (Array.replicate (2 * C.n) (.int .i64 0)) 30) (x := .slice (some ⟨w.heap.size, 0, none⟩) 0 C.n) rfl rfl (fun d => run_mk0 (w := w.at d) hn (x := .const (.int .i64 0)) (y := .tmp 38) rfl rfl k38) ?_)
 rw [show (ops11[2]'(by rw [ops11_size]; decide)).dst = some 39 from rfl]
 have l39 : evalT (putT T2 (some 39) (.slice (some ⟨w.heap.size, 0, none⟩) 0 C.n)) (.tmp 39) = .slice (some ⟨w.heap.size, 0, none⟩) 0 C.n := ev_eq z2 (by decide)
 have l8 := (ev_ne (v := .slice (some ⟨w.heap.size, 0, none⟩) 0 C.n) (s := 8) (t := 39) z2 (by decide) (by decide)).trans k8
 have z3 : (putT T2 (some 39) (.slice (some ⟨w.heap.size, 0, none⟩) 0 C.n)).size = 63 := by rw [size_putT]; exact z2
 generalize putT T2 (some 39) (.slice (some ⟨w.heap.size, 0, none⟩) 0 C.n) = T3 at l39 l8 z3 ⊢
 have hv1 := cell_push (ob := .cells (Array.replicate (2 * C.n) (.int .i64 0)) 30) hv
 have h21 := cell_push (ob := .cells (Array.replicate (2 * C.n) (.int .i64 0)) 30) h2
 generalize ({ w with heap := w.heap.push (.cells (Array.replicate (2 * C.n) (.int .i64 0)) 30) } : World) = w1 at *
 generalize w.heap.size = out at *
 refine Reach.more (n := (f + 23) + 1) (by omega) (re_pv hb38 (o := ops11[3]'(by rw [ops11_size]; decide)) (x := .slice (some ⟨out, 0, none⟩) 0 C.n) rfl rfl (by rw [show (ops11[3]'(by rw [ops11_size]; decide)).op = .assign (.tmp 39) from rfl]; simp [evPure, l39]) ?_)
 rw [show (ops11[3]'(by rw [ops11_size]; decide)).dst = some 12 from rfl]
 have m12 : evalT (putT T3 (some 12) (.slice (some ⟨out, 0, none⟩) 0 C.n)) (.tmp 12) = .slice (some ⟨out, 0, none⟩) 0 C.n := ev_eq z3 (by decide)
 have m8 := (ev_ne (v := .slice (some ⟨out, 0, none⟩) 0 C.n) (s := 8) (t := 12) z3 (by decide) (by decide)).trans l8
 have z4 : (putT T3 (some 12) (.slice (some ⟨out, 0, none⟩) 0 C.n)).size = 63 := by rw [size_putT]; exact z3
 generalize putT T3 (some 12) (.slice (some ⟨out, 0, none⟩) 0 C.n) = T4 at m12 m8 z4 ⊢
 refine Reach.more (n := (f + 19) + 4) (by omega) (re_run hb38 4 ?_)
 simp only [evRun, evStep, ops12_size, List.range, List.range.loop]
 refine Reach.more (n := (f + 18) + 1) (by omega) (re_ld hb38 (o := ops12[0]'(by rw [ops12_size]; decide)) (x := .pointer (some ⟨C.F, 0, none⟩)) (a := ⟨V, 0, none⟩) rfl rfl (fun d => run_ld1 (w := w1.at d) (ty := 65) (x := .tmp 8) rfl m8 hv1 (.inr (.inl rfl))) hv1 nV ?_)
 rw [show (ops12[0]'(by rw [ops12_size]; decide)).dst = some 40 from rfl]
 have n40 : evalT (putT T4 (some 40) (.pointer (some ⟨C.F, 0, none⟩))) (.tmp 40) = .pointer (some ⟨C.F, 0, none⟩) := ev_eq z4 (by decide)
 have n12 := (ev_ne (v := .pointer (some ⟨C.F, 0, none⟩)) (s := 12) (t := 40) z4 (by decide) (by decide)).trans m12
 have n8 := (ev_ne (v := .pointer (some ⟨C.F, 0, none⟩)) (s := 8) (t := 40) z4 (by decide) (by decide)).trans m8
 have z5 : (putT T4 (some 40) (.pointer (some ⟨C.F, 0, none⟩))).size = 63 := by rw [size_putT]; exact z4
 generalize putT T4 (some 40) (.pointer (some ⟨C.F, 0, none⟩)) = T5 at n40 n12 n8 z5 ⊢
 refine Reach.more (n := (f + 17) + 1) (by omega) (re_pv hb38 (o := ops12[1]'(by rw [ops12_size]; decide)) (x := .pointer (some ⟨C.F, 0, none⟩)) rfl rfl (by rw [show (ops12[1]'(by rw [ops12_size]; decide)).op = .nilCheck (.tmp 40) from rfl]; simp [evPure, n40]) ?_)
 rw [show (ops12[1]'(by rw [ops12_size]; decide)).dst = some 41 from rfl]
 have o41 : evalT (putT T5 (some 41) (.pointer (some ⟨C.F, 0, none⟩))) (.tmp 41) = .pointer (some ⟨C.F, 0, none⟩) := ev_eq z5 (by decide)
 have o12 := (ev_ne (v := .pointer (some ⟨C.F, 0, none⟩)) (s := 12) (t := 41) z5 (by decide) (by decide)).trans n12
 have o8 := (ev_ne (v := .pointer (some ⟨C.F, 0, none⟩)) (s := 8) (t := 41) z5 (by decide) (by decide)).trans n8
 have z6 : (putT T5 (some 41) (.pointer (some ⟨C.F, 0, none⟩))).size = 63 := by rw [size_putT]; exact z5
 generalize putT T5 (some 41) (.pointer (some ⟨C.F, 0, none⟩)) = T6 at o41 o12 o8 z6 ⊢
 refine Reach.more (n := (f + 16) + 1) (by omega) (re_pv hb38 (o := ops12[2]'(by rw [ops12_size]; decide)) (x := .pointer (some ⟨C.F, 2, none⟩)) rfl rfl (by rw [show (ops12[2]'(by rw [ops12_size]; decide)).op = .fieldAddr 75 (.tmp 41) 1 from rfl]; simp [evPure, o41, off75_1, Addr.add]) ?_)
 rw [show (ops12[2]'(by rw [ops12_size]; decide)).dst = some 42 from rfl]
 have p42 : evalT (putT T6 (some 42) (.pointer (some ⟨C.F, 2, none⟩))) (.tmp 42) = .pointer (some ⟨C.F, 2, none⟩) := ev_eq z6 (by decide)
 have p12 := (ev_ne (v := .pointer (some ⟨C.F, 2, none⟩)) (s := 12) (t := 42) z6 (by decide) (by decide)).trans o12
 have p8 := (ev_ne (v := .pointer (some ⟨C.F, 2, none⟩)) (s := 8) (t := 42) z6 (by decide) (by decide)).trans o8
 have z7 : (putT T6 (some 42) (.pointer (some ⟨C.F, 2, none⟩))).size = 63 := by rw [size_putT]; exact z6
 generalize putT T6 (some 42) (.pointer (some ⟨C.F, 2, none⟩)) = T7 at p42 p12 p8 z7 ⊢
 refine Reach.more (n := (f + 15) + 1) (by omega) (re_ld hb38 (o := ops12[3]'(by rw [ops12_size]; decide)) (x := .slice (some ⟨C.G, 0, none⟩) C.n C.n) (a := ⟨C.F, 2, none⟩) rfl rfl (fun d => run_ld1 (w := w1.at d) (ty := 28) (x := .tmp 42) rfl p42 h21 (.inr (.inr (.inl rfl)))) h21 nF ?_)
 rw [show (ops12[3]'(by rw [ops12_size]; decide)).dst = some 43 from rfl]
 have q43 : evalT (putT T7 (some 43) (.slice (some ⟨C.G, 0, none⟩) C.n C.n)) (.tmp 43) = .slice (some ⟨C.G, 0, none⟩) C.n C.n := ev_eq z7 (by decide)
 have q12 := (ev_ne (v := .slice (some ⟨C.G, 0, none⟩) C.n C.n) (s := 12) (t := 43) z7 (by decide) (by decide)).trans p12
 have q8 := (ev_ne (v := .slice (some ⟨C.G, 0, none⟩) C.n C.n) (s := 8) (t := 43) z7 (by decide) (by decide)).trans p8
 have z8 : (putT T7 (some 43) (.slice (some ⟨C.G, 0, none⟩) C.n C.n)).size = 63 := by rw [size_putT]; exact z7
 generalize putT T7 (some 43) (.slice (some ⟨C.G, 0, none⟩) C.n C.n) = T8 at q43 q12 q8 z8 ⊢
 refine Reach.more (n := (f + 14) + 1) (by omega) (re_q hb38 (o := ops12[4]'(by rw [ops12_size]; decide)) (x := .int .i64 C.n) rfl rfl (fun d => run_len28 (x := .tmp 43) (ats := #[28]) rfl rfl q43) ?_)
 rw [show (ops12[4]'(by rw [ops12_size]; decide)).dst = some 44 from rfl]
 have r44 : evalT (putT T8 (some 44) (.int .i64 C.n)) (.tmp 44) = .int .i64 C.n := ev_eq z8 (by decide)
 have r : ∀ s : Nat, s ≠ 44 → evalT (putT T8 (some 44) (.int .i64 C.n)) (.tmp s) = evalT T8 (.tmp s) := fun s hs => ev_ne z8 (by decide) hs
 have r43 := (r 43 (by decide)).trans q43
 have r12 := (r 12 (by decide)).trans q12
 have r8 := (r 8 (by decide)).trans q8
 have z9 : (putT T8 (some 44) (.int .i64 C.n)).size = 63 := by rw [size_putT]; exact z8
 clear r
 generalize putT T8 (some 44) (.int .i64 C.n) = T9 at r44 r43 r12 r8 z9 ⊢
 refine Reach.more (n := (f + 13) + 1) (by omega) (re_pv hb38 (o := ops12[5]'(by rw [ops12_size]; decide)) (x := .int .i64 (0 : Nat)) rfl rfl (by rw [show (ops12[5]'(by rw [ops12_size]; decide)).op = .move (.const (.int .i64 0)) from rfl]; simp [evPure, evalT_const]) ?_)
 rw [show (ops12[5]'(by rw [ops12_size]; decide)).dst = some 45 from rfl]
 have e : ∀ s : Nat, s ≠ 45 → evalT (putT T9 (some 45) (.int .i64 (0 : Nat))) (.tmp s) = evalT T9 (.tmp s) := fun s hs => ev_ne z9 (by decide) hs
 have hT : TP C V out 0 0 (putT T9 (some 45) (.int .i64 (0 : Nat))) := ⟨by rw [size_putT]; exact z9, (e 8 (by decide)).trans r8, (e 12 (by decide)).trans r12, (e 43 (by decide)).trans r43, (e 44 (by decide)).trans r44, ev_eq z9 (by decide)⟩
 clear e
 generalize putT T9 (some 45) (.int .i64 (0 : Nat)) = T10 at hT ⊢
 refine Reach.more (n := (f + 10) + 3) (by omega) (re_run hb38 3 ?_)
 simp only [evRun, evStep]
 exact Reach.more (by omega) (h T10 hT)
end
end Go.Proofs.Ytcoppnbjpncdcaa.Q
end
section
set_option linter.unusedVariables false
set_option linter.unusedSimpArgs false
namespace Go.Proofs.Ytcoppnbjpncdcaa.Q
open Go Go.Conc Go.Proofs.Ytcoppnbjpncdcaa.Sim
open Go.ConcR (mk KK WgAt wgBlock stA smA rd wr)
section
variable (Z : Zs Tp.prog) {T : Array Value} {v : World}
theorem seqD {n c : Nat} {p : Option Addr} {p5 : Value} {least : Int} (hn : n ≤ 9) (hT : TA n (.slice p n c) p5 least T) (h : Z.st T [.code Tp.t4] v) :
   ∃ T', TB n (.slice p n c) p5 least v.heap.size 0 0 T' ∧ Z.st T' [.code Tp.lpB, .inLoop Tp.lpB, .inBlock 2, .code Tp.t6] { v with heap := v.heap.push (.cells (Array.replicate (2 * n) (.int .i64 0)) 30) } := by
 replace h := Z.run (offP_ok _) 2 h
 simp only [evRun, evStep, Tp.t4, show Tp.opsD.size = 5 from rfl, List.range, List.range.loop] at h
 replace h := Z.pv h (o := Tp.op 37 (.move (.tmp 7))) (x := .slice p n c) rfl rfl (by simp [Tp.op, evPure, hT.s7])
 rw [show (Tp.op 37 (.move (.tmp 7))).dst = some 37 from rfl] at h
 have g37 := ev_eq (t := 37) (v := .slice p n c) hT.size (by decide)
 have h1 := hT.put (t := 37) (by decide) (by decide) (.slice p n c)
 generalize putT T (some 37) (.slice p n c) = T1 at *
 replace h := Z.val h (o := Tp.lenOp 38 37) rfl rfl (run_lenS (x := .tmp 37) rfl rfl g37)
 rw [show (Tp.lenOp 38 37).dst = some 38 from rfl] at h
 have g38 := ev_eq (t := 38) (v := .int .i64 n) h1.size (by decide)
 have h2 := h1.put (t := 38) (by decide) (by decide) (.int .i64 n)
 generalize putT T1 (some 38) (.int .i64 n) = T2 at *
 replace h := Z.val h (o := Tp.op 39 (.makeSlice 28 Tp.i0 (.tmp 38))) rfl rfl (run_mk0S hn (x := Tp.i0) (y := .tmp 38) rfl rfl g38)
 rw [show (Tp.op 39 (.makeSlice 28 Tp.i0 (.tmp 38))).dst = some 39 from rfl] at h
 have g39 := ev_eq (t := 39) (v := .slice (some ⟨v.heap.size, 0, none⟩) 0 n) h2.size (by decide)
 have h3 := h2.put (t := 39) (by decide) (by decide) (.slice (some ⟨v.heap.size, 0, none⟩) 0 n)
 generalize putT T2 (some 39) (.slice (some ⟨v.heap.size, 0, none⟩) 0 n) = T3 at *
 replace h := Z.pv h (o := Tp.op 12 (.assign (.tmp 39))) (x := .slice (some ⟨v.heap.size, 0, none⟩) 0 n) rfl rfl (by simp [Tp.op, evPure, g39])
 rw [show (Tp.op 12 (.assign (.tmp 39))).dst = some 12 from rfl] at h
 have g12 := ev_eq (t := 12) (v := .slice (some ⟨v.heap.size, 0, none⟩) 0 n) h3.size (by decide)
 have h4 := h3.put (t := 12) (by decide) (by decide) (.slice (some ⟨v.heap.size, 0, none⟩) 0 n)
 generalize putT T3 (some 12) (.slice (some ⟨v.heap.size, 0, none⟩) 0 n) = T4 at *
 replace h := Z.pv h (o := Tp.op 20 (.move Tp.i0)) (x := .int .i64 (0 : Nat)) rfl rfl (by simp [Tp.op, evPure, Tp.i0, evalT_const])
 rw [show (Tp.op 20 (.move Tp.i0)).dst = some 20 from rfl] at h
 have g20 := ev_eq (t := 20) (v := .int .i64 (0 : Nat)) h4.size (by decide)
 have k12 := (ev_ne (v := .int .i64 (0 : Nat)) (s := 12) (t := 20) h4.size (by decide) (by decide)).trans g12
 have h5 := h4.put (t := 20) (by decide) (by decide) (.int .i64 (0 : Nat))
 generalize putT T4 (some 20) (.int .i64 (0 : Nat)) = T5 at *
 replace h := Z.run (offP_ok _) 4 h
 simp only [evRun, evStep, Tp.t5] at h
 exact ⟨T5, ⟨h5, k12, g20⟩, h⟩
end
def retF (T : Array Value) : Frame := { SF T [.code .ret] with mode := .returning }
def StE (B : Bk) (l : List Frame) (x₀ : Frame × List Frame × World) (cs : List Frame) (a : Goroutine) (w : World) : Prop :=
 ∃ TP TS v J, a = G (retF TP) cs ∧ evalT TP (.tmp 6) = evalT TS (.tmp 6) ∧ TS.size = 63 ∧ TP.size = 63 ∧ Path Tp.prog x₀ (retF TS, l, v) ∧ PQ B J w v
section
variable {Post : Value → World → Prop} {l : List Frame} {x₀ : Frame × List Frame × World} {cs : List Frame} {B : Bk}
theorem pq_box {J : Nat → Prop} {w v : World} (h : PQ B J w v) (O : BkOk B) (a b : Int) : PQ B (fun c => J c ∨ c = w.heap.size) (pB w a b) (pH v) := by
 have h1 := h.husk O #[.int .i64 0, .int .i64 0] 30
 have hs := h.sz O
 have ne : ∀ {c : Nat}, J c → w.heap.size ≠ c := fun hc e => by have := h.rel.low _ hc; omega
 have hnew : Cl { w with heap := w.heap.push (.cells #[.int .i64 0, .int .i64 0] 30) } w.heap.size := ⟨_, _, Array.getElem?_push_size⟩
 have h2 := h1.mine O (r := w.heap.size) (o := 0) (x := .int .i64 a) (.inr rfl) hnew hs (ne h.jV) (ne h.jF) (ne h.jG) (ne h.jH)
 exact h2.mine O (r := w.heap.size) (o := 1) (x := .int .i64 b) (.inr rfl) (cl_set hnew) hs (ne h.jV) (ne h.jF) (ne h.jG) (ne h.jH)
theorem pq_app {J : Nat → Prop} {w v : World} (h : PQ B J w v) (O : BkOk B) {out : Nat} (hj : ¬ J out) (hN : B.N ≤ out) (m : Nat) (x y : Int) : PQ B J (aW (pC w x y) out m x y) (aW (pC v x y) out m x y) := by
 have h1 := h.both O (ob := .cells #[.int .i64 x, .int .i64 y] 30) (.inl ⟨_, _, _, rfl⟩)
 exact (h1.put O (r := out) (o := m * 2) (x := .int .i64 x) hj hN).put O (r := out) (o := m * 2 + 1) (x := .int .i64 y) hj hN
theorem exitZ (Z : Zs Tp.prog) {n m out : Nat} {sl p5 : Value} {least : Int} {T : Array Value} {v : World} (hT : TB n sl p5 least out m n T) (h : Z.st T [.code Tp.lpB, .inLoop Tp.lpB, .inBlock 2, .code Tp.t6] v) :
   ∃ T', T'.size = 63 ∧ evalT T' (.tmp 6) = .slice (some ⟨out, 0, none⟩) m n ∧ Z.st T' [.code .ret] v := by
 replace h := Z.run (offP_ok _) 2 h
 simp only [evRun, evStep, Tp.lpB, show Tp.opsT.size = 1 from rfl, List.range, List.range.loop] at h
 replace h := Z.pv h (o := Tp.op 21 (.binOp .lss 3 (.tmp 20) (.tmp 17) 3)) (x := .bool false) rfl rfl (by simp [Tp.op, evPure, hT.s20, hT.ta.s17, intBin])
 rw [show (Tp.op 21 (.binOp .lss 3 (.tmp 20) (.tmp 17) 3)).dst = some 21 from rfl] at h
 have g21 : evalT (putT T (some 21) (.bool false)) (.tmp 21) = .bool false := ev_eq hT.ta.size (by decide)
 have hT1 := hT.put (t := 21) (by decide) (by decide) (.bool false)
 generalize putT T (some 21) (.bool false) = T1 at *
 replace h := Z.run (offP_ok _) 6 h
 simp only [evRun, evStep, g21, exitTo, beq_self_eq_true, ↓reduceIte, Tp.t6, show Tp.opsH.size = 2 from rfl, List.range, List.range.loop] at h
 replace h := Z.pv h (o := Tp.op 62 (.move (.tmp 12))) (x := .slice (some ⟨out, 0, none⟩) m n) rfl rfl (by simp [Tp.op, evPure, hT1.s12])
 rw [show (Tp.op 62 (.move (.tmp 12))).dst = some 62 from rfl] at h
 have g62 := ev_eq (t := 62) (v := .slice (some ⟨out, 0, none⟩) m n) hT1.ta.size (by decide)
 have z2 : (putT T1 (some 62) (.slice (some ⟨out, 0, none⟩) m n)).size = 63 := by rw [size_putT]; exact hT1.ta.size
 generalize putT T1 (some 62) (.slice (some ⟨out, 0, none⟩) m n) = T2 at *
 replace h := Z.pv h (o := Tp.op 6 (.assign (.tmp 62))) (x := .slice (some ⟨out, 0, none⟩) m n) rfl rfl (by simp [Tp.op, evPure, g62])
 rw [show (Tp.op 6 (.assign (.tmp 62))).dst = some 6 from rfl] at h
 have g6 := ev_eq (t := 6) (v := .slice (some ⟨out, 0, none⟩) m n) z2 (by decide)
 have z3 : (putT T2 (some 6) (.slice (some ⟨out, 0, none⟩) m n)).size = 63 := by rw [size_putT]; exact z2
 generalize putT T2 (some 6) (.slice (some ⟨out, 0, none⟩) m n) = T3 at *
 replace h := Z.run (offP_ok _) 1 h
 simp only [evRun, evStep] at h
 exact ⟨T3, z3, g6, h⟩
theorem exitS {n m out : Nat} {sl p5 : Value} {least : Int} {T : Array Value} {v : World} (hT : TB n sl p5 least out m n T) (h : On Tp.prog Post l x₀ T [.code Tp.lpB, .inLoop Tp.lpB, .inBlock 2, .code Tp.t6] v) :
   ∃ T', T'.size = 63 ∧ evalT T' (.tmp 6) = .slice (some ⟨out, 0, none⟩) m n ∧ Path Tp.prog x₀ (retF T', l, v) := by
 obtain ⟨T3, z3, g6, h⟩ := exitZ (onZ Tp.prog Post l x₀) hT h
 have hn : Sim.Next Tp.prog (SF T3 [.code .ret], l, v) (retF T3, l, v) := ⟨SF_ne, v.tape, #[], stepG_ret'⟩
 refine ⟨T3, z3, g6, ?_⟩
 rcases h.path with rfl | hp
 · exact .one hn
 · exact path_snoc hp hn
theorem joint {p5 : Value} {c : Nat} {least : Int} {out : Nat} {sl : Value} (O : BkOk B) (hvals : B.vals = valsOf B.xs B.ys least) (hsl : 0 < B.C.n → sl = .slice (some ⟨B.V0, B.off, none⟩) B.C.n c) (hN : B.N ≤ out) (hoF : out ≠ B.C.F) (hoW : out ≠ B.C.Wg) :
   ∀ (r i m : Nat) (T TS : Array Value) (w v : World) (J : Nat → Prop), B.C.n = i + r → m ≤ i → TP B.C B.V out m i T → TB B.C.n sl p5 least out m i TS → PQ B J w v → Row B.C.n out w → Row B.C.n out v → ¬ J out →
     On Tp.prog Post l x₀ TS [.code Tp.lpB, .inLoop Tp.lpB, .inBlock 2, .code Tp.t6] v →
     RE B.Sh w (StE B l x₀ cs) (base 38) cs (100 * r + 30) T [.code lpQ, .inLoop lpQ, .inBlock 2, .code (.seq (.region 18 ops18 false) .ret)]
 | 0, i, m, T, TS, w, v, J, hr, hm, hT, hS, hP, rw1, rw2, hj, h => by
   obtain rfl : i = B.C.n := by omega
   obtain ⟨TS', z, g, hp⟩ := exitS hS h
   refine Reach.more (n := 5 + 20) (by omega) (exitP hT fun T' z' g' => ?_)
   rintro _ ⟨d, rfl⟩
   refine Goes.step rfl fun w₁ ⟨d', e⟩ => ?_
   subst e
   have e1 : stepG Try.prog true (G ((base 38).at ⟨T', []⟩ [.code .ret]) cs) ((w.at d).at d') = .go (G (retF T') cs) ((w.at d).at d') := stepG_ret'
   rw [e1]
   refine ⟨dx_idle _, Goes.stop fun w₂ ⟨d2, e2⟩ => ?_⟩
   subst e2
   exact ⟨T', TS', v, J, rfl, g'.trans g.symm, z, z', hp, ((hP.at d).at d').at d2⟩
 | r + 1, i, m, T, TS, w, v, J, hr, hm, hT, hS, hP, rw1, rw2, hj, h => by
   have hi : i < B.C.n := by omega
   have hsl' := hsl (by omega)
   subst hsl'
   have hsz := hP.sz O
   have hpair := hP.pair i hi
   have hhas := hP.has i hi
   have hout : out < w.heap.size := by obtain ⟨_, _, q⟩ := rw1; exact (Array.getElem?_eq_some_iff.1 q).1
   have nsz : ∀ {b : Nat}, J b → w.heap.size ≠ b := fun hb e => by have := hP.rel.low _ hb; omega
   have nV : ¬ B.Sh (.cell ⟨B.V, 0, none⟩) := notSh O O.v (fun e => absurd e O.vf) O.vw
   have nF : ¬ B.Sh (.cell ⟨B.C.F, 3, none⟩) := notSh O O.f (fun _ => by decide) O.apart.fw
   have nG : ∀ o, ¬ B.Sh (.cell ⟨B.C.G, o, none⟩) := fun o => notSh O O.g (fun e => absurd e.symm O.apart.fg) O.apart.gw
   have nH : ∀ o, ¬ B.Sh (.cell ⟨B.C.H, o, none⟩) := fun o => notSh O O.h (fun e => absurd e.symm O.apart.fh) O.apart.hw
   have nN : ∀ o, ¬ B.Sh (.cell ⟨w.heap.size, o, none⟩) := fun o => notSh O hsz (fun e => absurd e (nsz hP.jF)) (nsz hP.jW)
   have nO : ∀ o, ¬ B.Sh (.cell ⟨out, o, none⟩) := fun o => notSh O hN (fun e => absurd e hoF) hoW
   have hF3 := hP.c3
   rw [O.hv] at hF3
   obtain ⟨TS1, hS1, h22, h28, h1⟩ := roundB (onZ Tp.prog Post l x₀) hi hS hpair.1 hpair.2 h
   have hj' : ¬ (fun c => J c ∨ c = w.heap.size) out := fun e => e.elim hj (by omega)
   have hvi : B.vals i = (Job.mk 0 0 0 0 (B.xs i) (B.ys i) least 0).fin := by rw [hvals]; rfl
   have hx1 : (pH v).cell? ⟨B.V0, B.off + 2 * i, none⟩ = some (.int .i64 (B.xs i)) := cell_push hpair.1
   have hy1 : (pH v).cell? ⟨B.V0, B.off + 2 * i + 1, none⟩ = some (.int .i64 (B.ys i)) := cell_push hpair.2
   by_cases hlong : IntKind.i64.wrap (B.ys i - B.xs i) ≥ least
   · have hf : B.vals i = (.int .i64 (B.xs i), .int .i64 (B.ys i), .bool true) := by rw [hvi]; unfold Job.fin Job.long; rw [if_pos hlong]
     unfold Has at hhas
     rw [hf] at hhas
     rw [decide_eq_true hlong] at h28
     replace h1 := On.run (offP_ok _) 1 h1
     simp only [evRun, evStep, h28] at h1
     obtain ⟨TS2, hS2, h2⟩ := roundF (onZ Tp.prog Post l x₀) (m := m) (by omega) hS1 h22 hx1 hy1 (rw2.push _) h1
     obtain ⟨TS3, hS3, h3⟩ := roundG (onZ Tp.prog Post l x₀) hi O.n9 hS2 h2
     refine Reach.more (n := (100 * r + 51) + 40) (by omega) (roundP1 O.apart hi hT (a := B.xs i) (b := B.ys i) (t := true) hhas.1 hhas.2.1 hhas.2.2 hP.cv hF3 nG nH nV nF nN fun T1 hT1 h56 h14 => ?_)
     refine Reach.more (n := (100 * r + 50) + 1) (by omega) (re_run hb38 1 ?_)
     simp only [evRun, evStep, h56]
     have hbox : Row B.C.n out (pB w (B.xs i) (B.ys i)) := by obtain ⟨cs, q1, q2⟩ := rw1; exact ⟨cs, q1, (pB_old w _ _ hout).trans q2⟩
     have hPb := pq_box hP O (B.xs i) (B.ys i)
     have nN2 : ∀ o, ¬ B.Sh (.cell ⟨(pB w (B.xs i) (B.ys i)).heap.size, o, none⟩) := fun o => notSh O (hPb.sz O) (fun e => by have := hPb.rel.low _ hPb.jF; rw [← e] at this; exact absurd this (Nat.lt_irrefl _)) (fun e => by have := hPb.rel.low _ hPb.jW; rw [← e] at this; exact absurd this (Nat.lt_irrefl _))
     refine Reach.more (n := (100 * r + 40) + 10) (by omega) (roundP2 (m := m) (by omega) hT1 h14 (pB_heap w _ _) hbox nN nO nN2 fun T2 hT2 => ?_)
     refine Reach.more (n := (100 * r + 30) + 10) (by omega) (roundP3 hi O.n9 hT2 fun T3 hT3 => ?_)
     exact joint O hvals hsl hN hoF hoW r (i + 1) (m + 1) T3 TS3 _ _ _ (by omega) (by omega) hT3 hS3 (pq_app hPb O hj' hN m _ _) ((hbox.push _).aW) (((rw2.push _).push _).aW) hj' h3
   · have hf : B.vals i = (.int .i64 0, .int .i64 0, .bool false) := by rw [hvi]; unfold Job.fin Job.long; rw [if_neg hlong]
     unfold Has at hhas
     rw [hf] at hhas
     rw [decide_eq_false hlong] at h28
     replace h1 := On.run (offP_ok _) 2 h1
     simp only [evRun, evStep, h28] at h1
     obtain ⟨TS3, hS3, h3⟩ := roundG (onZ Tp.prog Post l x₀) hi O.n9 hS1 h1
     refine Reach.more (n := (100 * r + 51) + 40) (by omega) (roundP1 O.apart hi hT (a := 0) (b := 0) (t := false) hhas.1 hhas.2.1 hhas.2.2 hP.cv hF3 nG nH nV nF nN fun T1 hT1 h56 h14 => ?_)
     refine Reach.more (n := (100 * r + 49) + 2) (by omega) (re_run hb38 2 ?_)
     simp only [evRun, evStep, h56]
     have hbox : Row B.C.n out (pB w 0 0) := by obtain ⟨cs, q1, q2⟩ := rw1; exact ⟨cs, q1, (pB_old w _ _ hout).trans q2⟩
     have hPb := pq_box hP O 0 0
     refine Reach.more (n := (100 * r + 30) + 10) (by omega) (roundP3 hi O.n9 hT1 fun T3 hT3 => ?_)
     exact joint O hvals hsl hN hoF hoW r (i + 1) m T3 TS3 _ _ _ (by omega) (by omega) hT3 hS3 hPb hbox (rw2.push _) hj' h3
end
end Go.Proofs.Ytcoppnbjpncdcaa.Q
end
section
set_option linter.unusedVariables false
set_option linter.unusedSimpArgs false
namespace Go.Proofs.Ytcoppnbjpncdcaa.Q
open Go Go.Conc Go.Proofs.Ytcoppnbjpncdcaa.Sim
open Go.ConcR (mk KK WgAt wgBlock stA smA rd wr)
theorem tail_same : Tp.hole.b = tail38 := by kernel_rfl
theorem tail_ne : Tp.hole.a ≠ Tp.hole.b := by
 intro e
 have h1 : Tp.hole.a = .seq (.region 100 Tp.opsA false) Tp.t1 := rfl
 have h2 : Tp.hole.b = .seq (.region 2 ops2 true) (snd tail38) := by kernel_rfl
 rw [h1, h2] at e
 simp only [Code.seq.injEq, Code.region.injEq] at e
 exact absurd e.1.1 (by decide)
theorem ret_blind {TP TS : Array Value} (h : evalT TP (.tmp 6) = evalT TS (.tmp 6)) (h1 : TP.size = 63) (h2 : TS.size = 63) (cs : List Frame) (w : World) : stepG Try.prog true (G (retF TP) cs) w = stepG Try.prog true (gor (retF TS) cs) w := by
 have hr : ∀ T : Array Value, (results Try.f38 T).runT Try.prog w #[] = (.ok (evalT T (.tmp 6)) w, #[]) := by
   intro T
   unfold results
   rw [Try.results38]
   simp [go_sem, evalT]
 have hf : Try.prog.funcs[(38 : Nat)]? = some Try.f38 := Try.func38
 have key : ∀ T : Array Value, stepG Try.prog true (G (retF T) cs) w = GStep.after (seen Try.prog 38 #[]) (doReturn Try.prog true (retF T) cs none (evalT T (.tmp 6)) w) := by
   intro T
   show unwind Try.prog true (retF T) cs none w = _
   unfold unwind
   simp only [retF, SF, Frame.at, base, hf, hr]
 show stepG Try.prog true (G (retF TP) cs) w = stepG Try.prog true (G (retF TS) cs) w
 rw [key, key, h]
 cases cs with
 | cons c cs => rfl
 | nil =>
   have hi : Try.prog.inits.idxOf? 38 = none := by kernel_rfl
   unfold doReturn
   simp only [retF, SF, Frame.at, base, hi]
   rfl
theorem pairs_at {v : World} {p : Option Addr} {n : Nat} {xs ys : Nat → Int} (h : ∀ j, j < n → Pair v p j (xs j) (ys j)) (hn : 0 < n) :
   ∃ V0 off, p = some ⟨V0, off, none⟩ ∧ ∀ j, j < n → v.cell? ⟨V0, off + 2 * j, none⟩ = some (.int .i64 (xs j)) ∧ v.cell? ⟨V0, off + 2 * j + 1, none⟩ = some (.int .i64 (ys j)) := by
 obtain ⟨ad, b, off, h1, h2, _, _⟩ := h 0 hn
 have e0 : ad.add (0 * 2) = ad := by unfold Addr.add; rw [if_pos (by omega)]
 rw [e0] at h2
 subst h2
 refine ⟨b, off, h1, fun j hj => ?_⟩
 obtain ⟨ad', b', off', q1, q2, q3, q4⟩ := h j hj
 rw [h1] at q1
 obtain rfl := Option.some.inj q1
 have e : (⟨b, off, none⟩ : Addr).add (j * 2) = ⟨b, off + 2 * j, none⟩ := by
   unfold Addr.add
   by_cases hz : j * 2 = 0
   · rw [if_pos hz]; have : j = 0 := by omega
     subst this; rfl
   · rw [if_neg hz, Nat.mul_comm]
 rw [e] at q2
 simp only [Addr.mk.injEq, and_true] at q2
 obtain ⟨rfl, rfl⟩ := q2
 exact ⟨q3, q4⟩
set_option maxHeartbeats 1000000 in
theorem holeOk (Post : Value → World → Prop) : HoleOk Try.prog Tp.prog Tp.hole Post := by
 intro J w v fr fr' l l' gs sl t q hfr hm htd htd' hfn hcs hsw hrel h0 hL hP hR
 obtain ⟨g1, g2, g3, ⟨g4a, g4b, g4c⟩, ⟨g5a, g5b, g5c⟩, ⟨fn, hfnS, hbody, hsize⟩, _⟩ := hfr
 obtain ⟨fn0, T0, todo, defers, mode, kind, ro⟩ := fr
 obtain ⟨fn', T0', todo', defers', mode', kind', ro'⟩ := fr'
 dsimp only at g1 g2 g3 g4a g4b g4c g5a g5b g5c hm htd htd' hfn hfnS hsize
 have hfn38 : fn0 = 38 := hfn
 subst g4a g4b g4c g5a g5b g5c g2 g1 htd htd' hfn38 hm g3
 have hsz : T0'.size = 63 := by
   have e : Tp.prog.funcs[(38 : Nat)]? = some Tp.f38 := Tp.func38
   rw [e] at hfnS
   rw [← Option.some.inj hfnS] at hsize
   exact hsize
 have efr : (⟨38, T0', [.code Tp.hole.a], [], .run, .normal, none⟩ : Frame) = SF T0' [.code Tp.tail] := rfl
 have efr' : (⟨38, T0', [.code Tp.hole.b], [], .run, .normal, none⟩ : Frame) = (base 38).at ⟨T0', []⟩ [.code tail38] := by rw [tail_same]; rfl
 rw [efr] at hR
 rw [efr'] at h0
 rw [efr]
 have on0 : On Tp.prog Post l (SF T0' [.code Tp.tail], l, v) T0' [.code Tp.tail] v := ⟨hR, .inl rfl⟩
 obtain ⟨T1, p, n, c, bl, lo, least, hn, h7, h5, hcl, hTA, h20, on1⟩ := seqA hsw hsz on0
 obtain ⟨T2, hTA2, on2, hpairs⟩ := loopA hsw hn n 0 T1 (by omega) hTA h20 on1
 have hex : ∃ xs ys : Nat → Int, ∀ j, j < n → Pair v p j (xs j) (ys j) := by
   have : ∀ j, ∃ z : Int × Int, j < n → Pair v p j z.1 z.2 := fun j => by
     by_cases hj : j < n
     · obtain ⟨x, y, h⟩ := hpairs j (Nat.zero_le _) hj
       exact ⟨(x, y), fun _ => h⟩
     · exact ⟨(0, 0), fun h => absurd h hj⟩
   obtain ⟨z, hz⟩ := Classical.axiomOfChoice this
   exact ⟨fun j => (z j).1, fun j => (z j).2, hz⟩
 obtain ⟨xs, ys, hxy⟩ := hex
 have hlow : ∀ b, J b → b < w.heap.size := hrel.low
 have hSh : ∀ x : Addr, w.heap.size ≤ x.block → ¬ Shun J (.cell x) := by
   rintro x hx ⟨a, e, hj⟩
   simp only [Loc.cell.injEq] at e
   subst e
   have := hlow _ hj
   omega
 have hbef := befOk (Sh := Shun J) (b := base 38) (cs := l') (T0 := T0') hb38 hn rfl hSh hsz h7
 obtain ⟨N1, gs1, a1, w1, sl1, t1, q1, hr1, h01, hst1, hL1, hP1, hX1⟩ := goes_besideX (xb_tx w.heap.size) _ gs _ w sl t q h0 hL hP (fun op hop => xb_low w (hP.seen op hop)) hbef
 obtain ⟨TP, f, g, h, V, hT5, hW5, rfl⟩ := hst1
 rw [h5] at hT5
 have tr : ∀ {a : Addr} {z : Value}, v.cell? a = some z → w1.cell? a = some z ∧ ¬ J a.block ∧ a.block < w.heap.size := fun ha => by
   obtain ⟨q1, q2, q3, _⟩ := hrel.cell ha
   exact ⟨(cell_of_block' (hW5.old _ q3)).trans q1, q2, q3⟩
 have hsrc : Src J w1 n p bl lo xs ys least := by
   refine ⟨(tr hcl).1, (tr hcl).2.1, fun hpos => ?_⟩
   obtain ⟨V0, off, e, hall⟩ := pairs_at hxy hpos
   exact ⟨V0, off, e, (tr (hall 0 hpos).1).2.1, fun j hj => ⟨(tr (hall j hj).1).1, (tr (hall j hj).2).1⟩⟩
 have hVlt : ∀ V0 off, p = some ⟨V0, off, none⟩ → 0 < n → V0 < w.heap.size := by
   intro V0 off e hpos
   obtain ⟨V1, off1, e1, hall⟩ := pairs_at hxy hpos
   rw [e] at e1
   simp only [Option.some.injEq, Addr.mk.injEq, and_true] at e1
   obtain ⟨rfl, rfl⟩ := e1
   exact (tr (hall 0 hpos).1).2.2
 obtain ⟨L, M, gs2, w2, sl2, a2, q2, t2, hLV, hLs, hr2, hE⟩ := crowdOk (sl := sl1) hn hlow hsrc (tr hcl).2.2 hVlt hT5 hW5 h01 hL1 hP1 hX1
 obtain ⟨T38, TW, lW, hMT, hTWs, hKM, rfl, hlW⟩ := hE.at0
 obtain ⟨V0, off, hV0, hpr, hslW⟩ : ∃ V0 off, V0 < w.heap.size ∧ (∀ j, j < n → v.cell? ⟨V0, off + 2 * j, none⟩ = some (.int .i64 (xs j)) ∧ v.cell? ⟨V0, off + 2 * j + 1, none⟩ = some (.int .i64 (ys j))) ∧ (0 < n → p = some ⟨V0, off, none⟩) := by
   by_cases hpos : 0 < n
   · obtain ⟨V0, off, e, hall⟩ := pairs_at hxy hpos
     exact ⟨V0, off, hVlt _ _ e hpos, hall, fun _ => e⟩
   · exact ⟨bl, 0, (tr hcl).2.2, fun j hj => absurd (Nat.lt_of_le_of_lt (Nat.zero_le _) hj) hpos, fun x => absurd x hpos⟩
 let B : Bk := ⟨J, w, w.heap.size, cfgOf w.heap.size n f g h, V, V0, off, xs, ys, valsOf xs ys least⟩
 have hVne := hW5.v
 have hA := hW5.apart
 have O : BkOk B := ⟨hlow, rfl, hW5.fk.1, hW5.gk.1, hW5.hk.1, Nat.le_add_right _ 4, hW5.vk.1, rfl, rfl, fun e => hVne (.inl e), fun e => hVne (.inr (.inr (.inr e))), hA, hV0, hn⟩
 have hsz2 : w2.heap.size = w.heap.size + 5 + 3 * n := by rw [hE.size, show (Env.mk J (gs1.size - 1) w1 t1).w0.heap.size = w1.heap.size from rfl, hW5.size]; rfl
 have hkeep : ∀ b : Nat, b < w.heap.size → w2.heap[b]? = w.heap[b]? := fun b hb => by
   have hnG : ¬ isG (cfgOf w.heap.size n f g h) b := fun hG => by have := hW5.isG_ge hG; omega
   exact (hE.frame b (show b < w1.heap.size by rw [hW5.size]; omega) hnG).trans (hW5.old b hb)
 have hVlt1 : V < w1.heap.size := (Array.getElem?_eq_some_iff.1 hW5.vk.2).1
 have hVb : w2.heap[V]? = some (.cells #[.pointer (some ⟨f, 0, none⟩)] 65) := (hE.frame V hVlt1 hVne).trans hW5.vk.2
 have hlt5 : ∀ {b : Nat}, b < w1.heap.size → b < w.heap.size + 5 + 3 * n := fun hb => by rw [hW5.size] at hb; omega
 have hcells : ∀ b : Nat, w.heap.size ≤ b → b < w.heap.size + 5 + 3 * n → Cl w2 b := by
   intro b hb1 hb2
   by_cases hb : w1.heap.size ≤ b
   · exact hE.shp b hb (by rw [hsz2]; exact hb2)
   · by_cases hG : isG (cfgOf w.heap.size n f g h) b
     · rcases hG with e | e | e | e
       · obtain ⟨m, ms, hmu⟩ := hE.mu
         subst e
         exact ⟨_, _, hmu⟩
       · obtain ⟨cs, q, _⟩ := hE.gg
         subst e
         exact ⟨_, _, q⟩
       · obtain ⟨cs, q, _⟩ := hE.hh
         subst e
         exact ⟨_, _, q⟩
       · obtain ⟨st, sm, q⟩ := hE.wg
         subst e
         exact ⟨_, _, q⟩
     · obtain rfl : b = V := by
         have q1 := (Array.getElem?_eq_some_iff.1 hW5.fk.2).1
         have q2 := (Array.getElem?_eq_some_iff.1 hW5.gk.2).1
         have q3 := (Array.getElem?_eq_some_iff.1 hW5.hk.2).1
         have q4 := (Array.getElem?_eq_some_iff.1 hW5.vk.2).1
         have q5 : ¬ b = f := fun e => hG (.inl e)
         have q6 : ¬ b = g := fun e => hG (.inr (.inl e))
         have q7 : ¬ b = h := fun e => hG (.inr (.inr (.inl e)))
         have q8 : ¬ b = w.heap.size + 4 := fun e => hG (.inr (.inr (.inr e)))
         have v5 : ¬ V = f := fun e => hVne (.inl e)
         have v6 : ¬ V = g := fun e => hVne (.inr (.inl e))
         have v7 : ¬ V = h := fun e => hVne (.inr (.inr (.inl e)))
         have v8 : ¬ V = w.heap.size + 4 := fun e => hVne (.inr (.inr (.inr e)))
         have a1 : f ≠ g := hA.fg
         have a2 : f ≠ h := hA.fh
         have a3 : f ≠ w.heap.size + 4 := hA.fw
         have a4 : g ≠ h := hA.gh
         have a5 : g ≠ w.heap.size + 4 := hA.gw
         have a6 : h ≠ w.heap.size + 4 := hA.hw
         have l1 := hW5.fk.1
         have l2 := hW5.gk.1
         have l3 := hW5.hk.1
         have l4 := hW5.vk.1
         have l5 := hW5.size
         clear hpr hxy hpairs hVlt hkeep hlow hsz2
         omega
       exact ⟨_, _, hVb⟩
 have hPQ : PQ B (fun b => J b ∨ (w.heap.size ≤ b ∧ b < w.heap.size + 5 + 3 * n)) w2 (husks v (5 + 3 * n)) := by
   have hvs := hrel.size
   refine ⟨SW.husks hsw _, ⟨by rw [husks_size, hsz2]; omega, fun b hb => ?_, fun b o ho => ?_⟩, ⟨fun b hb => .inl hb, fun b hb => hb.imp id fun x => x.1, fun b hb => hkeep b (hlow b hb), ?_, ?_, by rw [hsz2]; show w.heap.size ≤ _; omega⟩, ?_, ?_, ?_, fun i hi => hE.has i hi, ?_, ?_, ?_, ?_, ?_, fun j hj => ⟨husks_cell' (hpr j hj).1, husks_cell' (hpr j hj).2⟩⟩
   · rcases hb with hb | ⟨_, hb⟩
     · have := hlow b hb; rw [hsz2]; omega
     · rw [hsz2]; exact hb
   · by_cases hb : b < w.heap.size
     · rw [husks_old v _ (by omega)] at ho
       rcases hrel.blk b o ho with ⟨e1, e2, e3⟩ | ⟨e1, e2, e3⟩ | ⟨e1, e2⟩
       · exact .inl ⟨fun x => x.elim e1 fun y => by omega, (hkeep b hb).trans e2, e3⟩
       · exact .inr (.inl ⟨.inl e1, e2, e3.imp (fun x => (hkeep b hb).trans x) fun ⟨c, t, x⟩ => ⟨c, t, (hkeep b hb).trans x⟩⟩)
       · exact .inr (.inr ⟨.inl e1, e2⟩)
     · have hb2 : b < w.heap.size + 5 + 3 * n := by have := (Array.getElem?_eq_some_iff.1 ho).1; rw [husks_size] at this; omega
       rw [husks_new v _ (by omega) (by omega)] at ho
       exact .inr (.inl ⟨.inr ⟨by omega, hb2⟩, (Option.some.inj ho).symm, .inr (hcells b (by omega) hb2)⟩)
   · exact hW5.os ▸ hE.os
   · exact hE.out.trans hW5.out
   · show w2.cell? ⟨V, 0, none⟩ = _
     unfold World.cell?; rw [hVb]; rfl
   · obtain ⟨m, ms, hmu⟩ := hE.mu
     exact hmu.cellG
   · obtain ⟨m, ms, hmu⟩ := hE.mu
     exact hmu.cellH
   · exact .inr ⟨hW5.vk.1, hlt5 hVlt1⟩
   · exact .inr ⟨hW5.fk.1, hlt5 (hW5.isG_lt (.inl rfl))⟩
   · exact .inr ⟨hW5.gk.1, hlt5 (hW5.isG_lt (.inr (.inl rfl)))⟩
   · exact .inr ⟨hW5.hk.1, hlt5 (hW5.isG_lt (.inr (.inr (.inl rfl))))⟩
   · exact .inr ⟨Nat.le_add_right _ 4, hlt5 (hW5.isG_lt (.inr (.inr (.inr rfl))))⟩
 obtain ⟨TS, hTB, on3⟩ := seqD (onZ Tp.prog Post l (SF T0' [.code Tp.tail], l, v)) hn hTA2 on2
 have hw2 : (husks v (5 + 3 * n)).heap.size = w2.heap.size := by rw [husks_size, hsz2, hrel.size]; omega
 rw [hw2] at hTB
 have hrow : ∀ u : World, u.heap.size = w2.heap.size → Row n w2.heap.size { u with heap := u.heap.push (.cells (Array.replicate (2 * n) (.int .i64 0)) 30) } := fun u hu => ⟨_, Array.size_replicate .., by show (u.heap.push _)[w2.heap.size]? = _; rw [← hu]; exact Array.getElem?_push_size⟩
 have hj := joint (Post := Post) (l := l) (cs := l') (x₀ := (SF T0' [.code Tp.tail], l, v)) (B := B) (c := c) (p5 := .pointer (some ⟨bl, lo, none⟩)) (sl := .slice p n c) (out := w2.heap.size) O rfl (fun hpos => by rw [hslW hpos]; rfl) (by rw [hsz2]; show w.heap.size ≤ _; omega) (fun e => by have := hlt5 (hW5.isG_lt (.inl rfl)); rw [hsz2] at e; rw [← e] at this; omega) (fun e => by have := hlt5 (hW5.isG_lt (.inr (.inr (.inr rfl)))); rw [hsz2] at e; rw [← e] at this; omega)
   n 0 0
 have hPQ2 := hPQ.both O (ob := .cells (Array.replicate (2 * n) (.int .i64 0)) 30) (.inl ⟨_, _, _, rfl⟩)
 have nV : ¬ B.Sh (.cell ⟨V, 0, none⟩) := notSh O O.v (fun e => absurd e O.vf) O.vw
 have nF : ¬ B.Sh (.cell ⟨f, 2, none⟩) := notSh O O.f (fun _ => by decide) O.apart.fw
 have hnj : ¬ (J w2.heap.size ∨ (w.heap.size ≤ w2.heap.size ∧ w2.heap.size < w.heap.size + 5 + 3 * n)) := by
   rintro (e | ⟨_, e⟩)
   · have := hlow _ e; rw [hsz2] at this; omega
   · rw [hsz2] at e; omega
 have hreg : ∀ T' : Array Value, T'.size = 63 → evalT T' (.tmp 7) = .slice p n c → evalT T' (.tmp 8) = .pointer (some ⟨V, 0, none⟩) → RE B.Sh w2 (StE B l (SF T0' [.code Tp.tail], l, v) l') (base 38) l' (100 * n + 30 + 30) T' [.inRegion ops10 [], .code tl11] := fun T' z e7 e8 =>
   begP (C := cfgOf w.heap.size n f g h) hn z (sl := .slice p n c) e7 e8 hPQ.cv hPQ.c2 nV nF fun T'' hT'' => hj T'' TS _ _ _ (by show n = 0 + n; omega) (Nat.le_refl _) hT'' hTB hPQ2 (hrow _ rfl) (hrow _ hw2) hnj on3
 have h38 : ∀ s : Nat, s ≠ 36 → evalT (putT T38 (some 36) (.tuple #[])) (.tmp s) = evalT T38 (.tmp s) := fun s hs => ev_ne hMT.size (by decide) hs
 have hre := hreg (putT T38 (some 36) (.tuple #[])) (by rw [size_putT]; exact hMT.size) ((h38 7 (by decide)).trans (hMT.s7.trans hLs)) ((h38 8 (by decide)).trans (hMT.s8.trans (by rw [hLV])))
 have hgoes : RE B.Sh w2 (StE B l (SF T0' [.code Tp.tail], l, v) l') (base 56) (below (base 38) l' T38) (100 * n + 30 + 30 + 60) TW lW := by
   rcases hlW with ⟨rfl, e2, e4⟩ | ⟨rfl, e6⟩
   · exact outA (C := cfgOf w.heap.size n f g h) hTWs e2 e4 hre
   · exact outB (C := cfgOf w.heap.size n f g h) hTWs e6 hre
 have hpast : Past B.Sh w2.heap.size t2 := hE.past
 obtain ⟨N3, gs3, a3, w3, sl3, t3, q3, hr3, h03, hst3, hL3, hP3, _⟩ := goes_besideX xt_tx _ gs2 _ w2 sl2 t2 q2 hE.zero hE.leavers hpast (fun _ _ => trivial) (hgoes w2 ⟨w2.drawn, rfl⟩)
 obtain ⟨TPe, TSe, ve, Je, rfl, hsix, hz1, hz2, hpath, hPQe⟩ := hst3
 refine ⟨N1 + (M + N3), gs3, retF TSe, retF TSe, G (retF TPe) l', w3, ve, sl3, t3, q3, Je, ?_, .inr ⟨rfl, rfl, fun w => ret_blind hsix hz2 hz1 l' w⟩, h03, hL3, ?_, hpath, ?_, .inr rfl, hPQe.sw, hPQe.rel, hPQe.kept⟩
 · rw [runNT_add, hr1]
   show runNT Try.prog (M + N3) (crowd gs1 w1 sl1) t1 = _
   rw [runNT_add, hr2]
   exact hr3
 · exact ⟨hP3.clean, fun i a ha hm => (hP3.known i a ha hm).imp id fun x => ⟨hPQe.shJ _ x.1, x.2⟩, hP3.over, hP3.hears, hP3.seen⟩
 · exact ⟨rfl, rfl, rfl, ⟨rfl, rfl, rfl⟩, ⟨rfl, rfl, rfl⟩, ⟨Tp.f38, Tp.func38, rfl, hz1⟩, TodoRel.ok (by kernel_rfl)⟩
end Go.Proofs.Ytcoppnbjpncdcaa.Q
end
section
namespace Go.Proofs.Ytcoppnbjpncdcaa.Close
open Go Go.Conc Go.ConcM Go.RowKit Go.Proofs.Ytcoppnbjpncdcaa.Sim Go.Proofs.Ytcoppnbjpncdcaa.Q
theorem relOk {f : FuncId} {x y : Code} (h : CodeRel Tp.prog Tp.hole f x y) : okCode Tp.prog x = true := by
 induction h with
 | hole _ => exact Tp.tail_ok.1
 | seq h _ ih => simp [okCode, h, ih]
theorem self : Twins Tp.prog Tp.prog (K0 Tp.prog) := by
 refine ⟨⟨rfl, Tp.twins.glob, fun k g h => ?_⟩, rfl, fun k g h => ?_⟩
 · rcases Tp.twins.funcs k g h with rfl | ⟨h1, h2, _⟩
   · exact .inl rfl
   · exact .inr ⟨h1, h2, g, h, h1, h2⟩
 · rcases Tp.twins.like k g h with rfl | ⟨_, b, b', _, _, _, hb, _, hc⟩
   · exact .inl rfl
   · exact .inr ⟨g, b, b, h, rfl, rfl, hb, hb, .inl ⟨rfl, hc.elim (fun x => x.2) relOk⟩⟩
theorem no_init_all : (38 :: Tp.keep).all (fun k => (Try.prog.inits.idxOf? k).isNone) = true := by kernel_rfl
theorem no_init : ∀ (f : FuncId) (g : Func), Tp.prog.funcs[f]? = some g → g.body.isSome = true → Try.prog.inits.idxOf? f = none := by
 intro f g h hb
 obtain ⟨_, rfl⟩ := Tp.funcs_get f g h
 have hk : f ∈ 38 :: Tp.keep := by
   unfold Tp.pick at hb
   by_cases h38 : f = 38
   · subst h38; exact .head _
   · rw [if_neg h38] at hb
     by_cases hk : Tp.keep.contains f = true
     · exact List.mem_cons_of_mem _ (by simpa using hk)
     · rw [if_neg hk] at hb; cases hb
 have := List.all_eq_true.1 no_init_all f hk
 simpa using this
def seenOb : Obj → Bool | .cells _ _ _ => true | _ => false
def veilOb (o : Obj) : Obj := if seenOb o = true then o else weird
def veil (W : World) : World := { W with heap := W.heap.map veilOb }
def J0 (W : World) (b : Nat) : Prop := ∃ o, W.heap[b]? = some o ∧ seenOb o = false
theorem veil_get (W : World) (b : Nat) : (veil W).heap[b]? = (W.heap[b]?).map veilOb := by simp [veil]
theorem veil_size (W : World) : (veil W).heap.size = W.heap.size := by simp [veil]
theorem veil_cell (W : World) (a : Addr) : (veil W).cell? a = W.cell? a := by
 unfold World.cell?
 rw [veil_get]
 cases h : W.heap[a.block]? with
 | none => rfl
 | some o =>
   cases o <;> rfl
theorem veil_rel (W : World) : Rel (J0 W) W (veil W) := by
 refine ⟨veil_size W, fun b ⟨o, h, _⟩ => (Array.getElem?_eq_some_iff.1 h).1, fun b o h => ?_⟩
 rw [veil_get] at h
 obtain ⟨x, hx, rfl⟩ := Option.map_eq_some_iff.1 h
 by_cases hs : seenOb x = true
 · refine .inl ⟨fun ⟨y, hy, hn⟩ => ?_, ?_, ?_⟩
   · rw [hx] at hy
     obtain rfl := Option.some.inj hy
     rw [hs] at hn; cases hn
   · unfold veilOb; rw [if_pos hs]; exact hx
   · unfold veilOb; rw [if_pos hs]
     cases x with
     | cells c t fr => exact .inl ⟨c, t, fr, rfl⟩
     | _ => cases hs
 · refine .inr (.inr ⟨⟨x, hx, by simpa using hs⟩, ?_⟩)
   unfold veilOb; rw [if_neg hs]
def Pst (W : World) (r : Value) (v' : World) : Prop := r = .bool true ∧ W.heap.size ≤ v'.heap.size ∧ ∀ k, k < W.heap.size → v'.heap[k]? = (veil W).heap[k]?
theorem ends_well {f : FuncId} {fn : Func} {c : Code} {args : Array Value} {W : World} (hS : Tp.prog.funcs[f]? = some fn) (hP : Try.prog.funcs[f]? = some fn) (hb : fn.body = some c) (hok : okCode Tp.prog c = true) (hsz : args.size ≤ fn.ntmps)
   (hC : ∀ τ, Calls Tp.prog f args ((veil W).re τ) fun e w' => e = .returned (.bool true) ∧ Below W.heap.size ((veil W).re τ) w') :
   EndsWell Try.prog (PostP (J0 W) W (Pst W)) (solo (G (Frame.enter Try.prog f args .normal) []) W) #[] := by
 have eS := enter_at (P := Tp.prog) args hS hb
 have eP := enter_at (P := Try.prog) args hP hb
 obtain ⟨fr, hfr⟩ : ∃ fr, fr = Frame.enter Tp.prog f args .normal := ⟨_, rfl⟩
 have hfe : Frame.enter Try.prog f args .normal = fr := by rw [hfr, eS, eP]
 have hsz2 : fr.tmps.size = fn.ntmps := by
   rw [hfr, eS]
   show (args ++ Array.replicate (fn.ntmps - args.size) undef).size = _
   rw [Array.size_append, Array.size_replicate]; omega
 have hfn : fr.fn = f := by rw [hfr, eS]; rfl
 have hmode : fr.mode = .run := by rw [hfr, eS]; rfl
 have hpl : fr.defers = [] ∧ fr.kind = .normal ∧ fr.roundOf = none := by rw [hfr, eS]; exact ⟨rfl, rfl, rfl⟩
 have htd : fr.todo = [.code c] := by rw [hfr, eS]; rfl
 have hknown : ∃ g : Func, Tp.prog.funcs[fr.fn]? = some g ∧ g.body.isSome = true ∧ fr.tmps.size = g.ntmps := ⟨fn, by rw [hfn]; exact hS, by rw [hb]; rfl, hsz2⟩
 have hrel : ∀ K, FrRel Tp.prog K fr fr := fun K => ⟨rfl, rfl, rfl, hpl, hpl, hknown, by rw [htd]; exact .ok (by simp [okItem, hok])⟩
 have hsw : SW (veil W) := (veil_rel W).sw
 have hends : Sim.Ends Tp.prog (Pst W) fr [] (veil W) := fun τ => by
   obtain ⟨e, w', fr', ⟨rfl, hB⟩, hcome, _, hleave⟩ := hC τ [noWay Tp.prog]
   refine ⟨fr', w', ?_, hleave.1, _, hleave, rfl, ?_, fun k hk => hB.block k hk⟩
   · rw [hfr]; exact hcome
   · have := hB.size
     rw [← veil_size W]; exact this
 have hruns := runs_of_ends self (by kernel_rfl) (by kernel_rfl) (fun _ _ _ h => h) ⟨hrel _, .inl hmode, .nil⟩ hsw hends
 have hmain := (main_of_runs Tp.twins tail_ne no_init (holeOk (Pst W)) hruns).1
 rw [hfe]
 exact hmain (J0 W) (J0 W) W W fr [] (gor fr []) #[gor fr []] none #[] (fun _ => 0) (hrel _) (.inl hmode) .nil hsw (veil_rel W) (Kept.refl _ _) (.inl rfl) rfl
   ⟨fun i g hi hg => absurd (Array.getElem?_eq_some_iff.1 hg).1 (by simp; omega), fun j _ => rfl⟩
   ⟨fun said ⟨i, j, hr⟩ => by obtain ⟨_, ⟨a, b, ha, _⟩, _⟩ := hr; simp [Trace.act?] at ha, fun i a h => by simp [touchAt, Trace.act?] at h, fun i g h => by simp [Trace.g?] at h, rfl, fun op hop => by simp at hop⟩
theorem postP_below {r : Value} {W W' : World} (h : PostP (J0 W) W (Pst W) r W') : r = .bool true ∧ Below W.heap.size W { W' with os := W.os, tape := W.tape } ∧ OsLater W.os W'.os := by
 obtain ⟨J, v', hr, ⟨rfl, h1, h2⟩, hk⟩ := h
 refine ⟨rfl, ⟨rfl, rfl, hk.out, hk.size, fun k hlt => ?_⟩, hk.os⟩
 have ho : W.heap[k]? = some (W.heap[k]'hlt) := Array.getElem?_eq_getElem hlt
 show W'.heap[k]? = W.heap[k]?
 by_cases hs : seenOb (W.heap[k]'hlt) = true
 · have e := h2 k hlt
   rw [veil_get, ho] at e
   simp only [Option.map_some, veilOb, if_pos hs] at e
   rcases hr.blk k _ e with ⟨_, x, _⟩ | ⟨_, x, _⟩ | ⟨_, x⟩
   · rw [x, ho]
   · rw [x] at hs; cases hs
   · rw [x] at hs; cases hs
 · exact hk.keep k ⟨_, ho, by simpa using hs⟩
end Go.Proofs.Ytcoppnbjpncdcaa.Close
end
section
set_option linter.unusedVariables false
set_option linter.unusedSimpArgs false
namespace Go.Proofs.YtcoppnbjpncdcaaW.PrintWords
open Go.RowKit
structure Aside0 (p : Prop) : Prop where mk :: (out : p)
structure Drawn0 (w w' : World) : Prop where mk :: (out : ∃ n, w' = w.drewN n)
theorem Drawn0.refl (w : World) : Drawn0 w w := ⟨⟨0, rfl⟩⟩
theorem Drawn0.step {w w' : World} (h : Drawn0 w w') (n : Nat) : Drawn0 w (w'.drewN n) := by
 obtain ⟨m, rfl⟩ := h
 exact ⟨⟨m + n, World.drewN_drewN ..⟩⟩
def rd (xs : List Int) (i : Int) : Int := xs.getD i.toNat 0
theorem below_alloc {w W : World} (h : Below w.heap.size w W) (o : Obj) : Below w.heap.size w (W.alloc o) := h.alloc h.size o
theorem pw_below_drewN {B : Nat} {w W : World} (h : Below B w W) (n : Nat) : Below B w (W.drewN n) := ⟨h.os, h.tape, h.output, h.size, h.block⟩
theorem below_then {B : Nat} {w w1 w2 : World} (h : Below B w w1) (hB : B ≤ w1.heap.size) (k : Below w1.heap.size w1 w2) : Below B w w2 :=
 h.trans ⟨k.os, k.tape, k.output, k.size, fun i hi => k.block i (Nat.lt_of_lt_of_le hi hB)⟩
theorem pw_cell_below {w w1 : World} (h : Below w.heap.size w w1) {a : Addr} {v : Value} (hc : w.cell? a = some v) : w1.cell? a = some v := (h.cell (World.block_lt_of_cell? w a hc)).trans hc
theorem add_plain (g j : Nat) : (⟨g, 0, none⟩ : Addr).add j = ⟨g, j, none⟩ := by unfold Addr.add; split <;> simp_all
theorem own_base {w : World} {base : Nat} {e : TypeId} {size n : Nat} {v : Value} {xs : List Value} (h : w.ownsRow base e size v n xs) (k : Nat) (hk : v.ownBlock = some k) : base ≤ k := by
 rcases h.2 with ⟨rfl, _⟩ | ⟨g, cap, cur, rfl, hb, _⟩
 · simp [Value.ownBlock] at hk
 · have : g = k := by simpa [Value.ownBlock] using hk
   omega
theorem own_lt {w : World} {base : Nat} {e : TypeId} {size n : Nat} {v : Value} {xs : List Value} (h : w.ownsRow base e size v n xs) (k : Nat) (hk : v.ownBlock = some k) : k < w.heap.size := by
 rcases h.2 with ⟨rfl, _⟩ | ⟨g, cap, cur, rfl, hb, hh, _⟩
 · simp [Value.ownBlock] at hk
 · have : g = k := by simpa [Value.ownBlock] using hk
   subst this
   exact (Array.getElem?_eq_some_iff.1 hh).1
def Reps {α : Type} (R : α → List Value → Prop) (size : Nat) (ps : List α) (cs : List Value) : Prop :=
 cs.length = ps.length * size ∧ ∀ j p, ps[j]? = some p → R p ((cs.drop (j * size)).take size)
theorem Reps.none {α : Type} (R : α → List Value → Prop) (size : Nat) : Reps R size [] [] := ⟨by simp, fun j p h => by simp at h⟩
theorem Reps.snoc {α : Type} {R : α → List Value → Prop} {size : Nat} {ps : List α} {cs c : List Value} {p : α} (h : Reps R size ps cs) (hp : R p c) (hc : c.length = size) : Reps R size (ps ++ [p]) (cs ++ c) := by
 refine ⟨by rw [List.length_append, h.1, hc, List.length_append, List.length_singleton, Nat.add_mul, Nat.one_mul], fun j q hq => ?_⟩
 rcases Nat.lt_or_ge j ps.length with hj | hj
 · rw [List.getElem?_append_left hj] at hq
   have h1 : j * size + size ≤ cs.length := by rw [h.1, ← Nat.succ_mul]; exact Nat.mul_le_mul_right _ hj
   have h2 := h.2 j q hq
   rw [List.drop_append_of_le_length (by omega), List.take_append_of_le_length (by rw [List.length_drop]; omega)]
   exact h2
 · have hj' : j = ps.length := by
     have := (List.getElem?_eq_some_iff.1 hq).1
     rw [List.length_append, List.length_singleton] at this
     omega
   subst hj'
   have hq' : p = q := by simpa using hq
   subst hq'
   rw [← h.1, List.drop_left, ← hc, List.take_length]
   exact hp
theorem Reps.imp_ {α : Type} {R R' : α → List Value → Prop} {size : Nat} {ps : List α} {cs : List Value} (h : Reps R size ps cs) (hR : ∀ p c, R p c → R' p c) : Reps R' size ps cs := ⟨h.1, fun j p hj => hR _ _ (h.2 j p hj)⟩
def ReadsRow {α : Type} (R : α → List Value → Prop) (size : Nat) (w : World) (A : Option Addr) (n : Nat) (ps : List α) : Prop :=
 ps.length = n ∧ n ≤ 9223372036854775807 ∧ (0 < n → ∃ ad, A = some ad ∧ ∀ j p, ps[j]? = some p → ∃ c, c.length = size ∧ R p c ∧ ∀ i u, c[i]? = some u → w.cell? (ad.add (j * size + i)) = some u)
theorem ReadsRow.get_ {α : Type} {R : α → List Value → Prop} {size : Nat} {w : World} {A : Option Addr} {n : Nat} {ps : List α} (h : ReadsRow R size w A n ps) (d : α) (i : Int) (h0 : 0 ≤ i) (h1 : i < n) :
   ∃ ad c, A = some ad ∧ c.length = size ∧ R (ps.getD i.toNat d) c ∧ ∀ j u, c[j]? = some u → w.cell? (ad.add (i.toNat * size + j)) = some u := by
 obtain ⟨ad, e, hc⟩ := h.2.2 (by omega)
 have hl : i.toNat < ps.length := by have := h.1; omega
 obtain ⟨c, hs, hr, hcell⟩ := hc i.toNat _ (List.getElem?_eq_getElem hl)
 refine ⟨ad, c, e, hs, ?_, hcell⟩
 rw [List.getD_eq_getElem?_getD, List.getElem?_eq_getElem hl]
 exact hr
theorem ReadsRow.imp_ {α : Type} {R R' : α → List Value → Prop} {size : Nat} {w w1 : World} {A : Option Addr} {n : Nat} {ps : List α} (h : ReadsRow R size w A n ps) (hb : Below w.heap.size w w1) (hR : ∀ p c, R p c → R' p c) : ReadsRow R' size w1 A n ps :=
 ⟨h.1, h.2.1, fun hn => by
   obtain ⟨ad, e, hc⟩ := h.2.2 hn
   refine ⟨ad, e, fun j p hj => ?_⟩
   obtain ⟨c, hs, hr, hcell⟩ := hc j p hj
   exact ⟨c, hs, hR _ _ hr, fun i u hu => pw_cell_below hb (hcell i u hu)⟩⟩
theorem own_reads_row {α : Type} {R : α → List Value → Prop} {w : World} {base n size : Nat} {e : TypeId} {v : Value} {ps : List α} {cs : List Value} (h : w.ownsRow base e size v n cs) (hR : Reps R size ps cs) (hn : ps.length = n) :
   ∃ A c, v = .slice A n c ∧ ReadsRow R size w A n ps := by
 rcases Nat.eq_zero_or_pos n with h0 | h0
 · rcases h.2 with ⟨rfl, rfl⟩ | ⟨g, cap, cur, rfl, _⟩
   · exact ⟨none, 0, rfl, hn, by omega, fun hp => absurd hp (by omega)⟩
   · exact ⟨_, cap, rfl, hn, by omega, fun hp => absurd hp (by omega)⟩
 · obtain ⟨g, cap, rfl, _, _⟩ := h.form h0
   have hm : n ≤ 9223372036854775807 := by
     rcases h.2 with ⟨_, h1⟩ | ⟨g', cap', cur, he, _, _, h1, h2, _⟩
     · omega
     · simp only [maxLen] at h2
       omega
   refine ⟨_, cap, rfl, hn, hm, fun _ => ⟨_, rfl, fun j p hj => ⟨(cs.drop (j * size)).take size, ?_, hR.2 j p hj, fun i u hu => ?_⟩⟩⟩
   · have hjl := (List.getElem?_eq_some_iff.1 hj).1
     have h1 : j * size + size ≤ cs.length := by rw [hR.1, ← Nat.succ_mul]; exact Nat.mul_le_mul_right _ hjl
     rw [List.length_take, List.length_drop]
     omega
   · refine h.cells (g := g) rfl _ u ?_
     rw [List.getElem?_take] at hu
     split at hu
     · rw [List.getElem?_drop] at hu
       exact hu
     · cases hu
theorem add_field (ad : Addr) (m j : Nat) (hj : 0 < j) : ad.add (m + j) = ⟨(ad.add m).block, (ad.add m).off + j, none⟩ := by
 unfold Addr.add
 by_cases hm : m = 0
 · subst hm
   simp [Nat.ne_of_gt hj]
 · simp [hm, Nat.add_assoc]
section
variable {P : Program} {ops : Array Oper} {rest : List Oper} {o : Oper} {a : Act} {Q : Exit → Act → World → Prop}
theorem print_append_cells {w0 W : World} (base : Nat) (hgd : o.guard = none) (s x : Operand) (t e : TypeId) (z : Value) (size bytes : Nat)
   (ho : o.op = .call { callee := .builtin .append, args := #[s, x], argTypes := #[t, t] })
   (ht : P.underlying t = some (.slice e)) (hinfo : (P.info? e).map (fun i => (i.zero, i.size, i.bytes)) = some (some z, size, bytes)) (hz : z.cells.size = size) (hs0 : 0 < size) (hb0 : 0 < bytes)
   (v : Value) (n : Nat) (xs ys : List Value) (hs : a.eval s = v) (hx : a.eval x = .slice (some ⟨W.heap.size, 0, none⟩) 1 1) (hys : ys.length = size) (h1 : ∀ u ∈ ys, u.oneCell' = true)
   (HO : W.ownsRow base e size v n xs) (HB : Below base w0 W) (hbase : base ≤ W.heap.size) (hl : (n + 1) * bytes ≤ 140737488355328)
   (h : ∀ v1 w1, w1.ownsRow base e size v1 (n + 1) (xs ++ ys) → Below base w0 w1 → W.grownBy w1 v.ownBlock → (v1.ownBlock = v.ownBlock ∨ ∃ b, v1.ownBlock = some b ∧ W.heap.size ≤ b) → wpList P ops Q rest (a.put o.dst v1) w1) :
   wpList P ops Q (o :: rest) a (W.alloc (.cells ys.toArray e)) := by
 obtain ⟨i0, hi, hzz⟩ := Option.map_eq_some_iff.1 hinfo
 simp only [Prod.mk.injEq] at hzz
 obtain ⟨hz0, hz1, hz2⟩ := hzz
 have hlen : n + 1 ≤ 140737488355328 := Nat.le_trans (Nat.le_mul_of_pos_right _ hb0) hl
 refine wpList_append_own_at (W.alloc (.cells ys.toArray e)) hgd s x t ho base e i0 z size bytes ht hi hz0 hz1 hz2 hz hs0 v n xs hs (HO.alloc _) ⟨W.heap.size, 0, none⟩ 1 1 ys hx (by rw [hys]; simp)
   (by simpa using World.news_of_block (cs := ys.toArray) (t := e) (fr := (0, 0)) (heap_alloc_new W (.cells ys.toArray e))) h1 (by simp only [maxLen]; omega) hl (by simp; omega) ?_
 intro v1 w1 hown hg _ hat
 refine h v1 w1 hown ((HB.alloc hbase _).grown hg (by simp; omega) (own_base HO)) (World.grownBy.trans (World.grownBy_alloc W _ _) hg) ?_
 rcases hat with hat | hat
 · exact .inl hat
 · exact .inr ⟨_, hat, by simp⟩
end
theorem blk_set {w : World} {g : Nat} {t : TypeId} {cs : Array Value} (h : w.heap[g]? = some (.cells cs t (0, 0))) (i : Nat) (u : Value) : (w.setCell ⟨g, i, none⟩ u).heap[g]? = some (.cells (cs.setIfInBounds i u) t (0, 0)) := by
 simp [World.setCell, Array.getElem?_modify, h]
theorem blk_far {w : World} {g : Nat} {t : TypeId} {cs : Array Value} (h : w.heap[g]? = some (.cells cs t (0, 0))) {p : Addr} (hp : g ≠ p.block) (u : Value) : (w.setCell p u).heap[g]? = some (.cells cs t (0, 0)) := (Below.heap_setCell w p u g hp).trans h
theorem blk_lt {w : World} {g : Nat} {o : Obj} (h : w.heap[g]? = some o) : g < w.heap.size := (Array.getElem?_eq_some_iff.1 h).1
theorem blk_cell {w : World} {g : Nat} {t : TypeId} {cs : Array Value} (h : w.heap[g]? = some (.cells cs t (0, 0))) (i : Nat) : w.cell? ⟨g, i, none⟩ = cs[i]? := cell_of_row w g i cs t (0, 0) h
theorem blk_frozen {w : World} {g : Nat} {t : TypeId} {cs : Array Value} (h : w.heap[g]? = some (.cells cs t (0, 0))) (i : Nat) : w.frozen? ⟨g, i, none⟩ = false := by simp [World.frozen?, h]
theorem blk_grown {w w1 : World} {g : Nat} {o : Obj} {row : Option Nat} (h : w.heap[g]? = some o) (hg : w.grownBy w1 row) (hne : some g ≠ row) : w1.heap[g]? = some o := (hg.block g (blk_lt h) hne).trans h
theorem own_weaken {w : World} {base base' : Nat} {e : TypeId} {size n : Nat} {v : Value} {xs : List Value} (h : w.ownsRow base e size v n xs) (hb : base' ≤ base) : w.ownsRow base' e size v n xs := by
 obtain ⟨h1, h2⟩ := h
 refine ⟨h1, ?_⟩
 rcases h2 with h2 | ⟨g, cap, cur, rfl, hg, r⟩
 · exact .inl h2
 · exact .inr ⟨g, cap, cur, rfl, Nat.le_trans hb hg, r⟩
theorem blk_drew {w : World} {g : Nat} {o : Obj} (h : w.heap[g]? = some o) : w.drew.heap[g]? = some o := h
theorem blk_drewN {w : World} {g : Nat} {o : Obj} (h : w.heap[g]? = some o) (n : Nat) : (w.drewN n).heap[g]? = some o := h
theorem blk_below {w w1 : World} {g : Nat} {o : Obj} (h : w.heap[g]? = some o) (hb : Below w.heap.size w w1) : w1.heap[g]? = some o := (hb.block g (blk_lt h)).trans h
theorem blk_new (w : World) (o : Obj) : (w.alloc o).heap[w.heap.size]? = some o := heap_alloc_new w o
theorem own_le {w : World} {base n m c size : Nat} {e : TypeId} {A : Option Addr} {xs : List Value} (h : w.ownsRow base e size (.slice A m c) n xs) : m ≤ c := by
 rcases h.2 with ⟨he, _⟩ | ⟨g, cap, cur, he, _, _, hnc, _⟩
 · injection he with _ h2 h3
   omega
 · injection he with _ h2 h3
   omega
def OwnRow {α : Type} (R : α → List Value → Prop) (e : TypeId) (size : Nat) (w : World) (base : Nat) (v : Value) (ps : List α) : Prop :=
 ∃ inner, w.ownsRow base e size v ps.length inner ∧ Reps R size ps inner
section
variable {α : Type} {R R' : α → List Value → Prop} {e : TypeId} {size : Nat} {w w1 : World} {base : Nat} {v : Value} {ps : List α}
theorem OwnRow.imp_ (h : OwnRow R e size w base v ps) (hR : ∀ p c, R p c → R' p c) : OwnRow R' e size w base v ps := by
 obtain ⟨inner, ho, hr⟩ := h
 exact ⟨inner, ho, hr.imp_ hR⟩
theorem OwnRow.reads (h : OwnRow R e size w base v ps) : ∃ A c, v = .slice A ps.length c ∧ ps.length ≤ c ∧ ReadsRow R size w A ps.length ps := by
 obtain ⟨inner, ho, hr⟩ := h
 obtain ⟨A, c, rfl, hrow⟩ := own_reads_row ho hr rfl
 exact ⟨A, c, rfl, own_le ho, hrow⟩
end
structure Kd (α : Type) where
 sz : Nat
 E : List Nat
 K : World → α → List Value → Prop
 M : World → Nat → (Nat → Prop) → α → List Value → Prop
 K_len : ∀ {w x cs}, K w x cs → cs.length = sz
 K_one : ∀ {w x cs}, K w x cs → ∀ u ∈ cs, u.oneCell' = true
 K_below : ∀ {w w1 : World} {x cs}, Below w.heap.size w w1 → K w x cs → K w1 x cs
 K_of_M : ∀ {w base ok x cs}, M w base ok x cs → K w x cs
 M_mono : ∀ {w base ok ok' x cs}, (∀ k, ok k → ok' k) → M w base ok x cs → M w base ok' x cs
 M_bound : ∀ {w : World} {base ok x cs}, M w base ok x cs → M w base (fun k => ok k ∧ base ≤ k ∧ k < w.heap.size ∧ ∃ q, q ∈ E ∧ ∃ cells, w.heap[k]? = some (.cells cells q (0, 0))) x cs
 M_move : ∀ {w w1 : World} {base ok x cs}, (∀ k, ok k → w1.heap[k]? = w.heap[k]?) → M w base ok x cs → M w1 base ok x cs
 M_lower : ∀ {w base base' ok x cs}, base' ≤ base → M w base ok x cs → M w base' ok x cs
theorem own_move {w w1 : World} {base : Nat} {e : TypeId} {size n : Nat} {v : Value} {xs : List Value} (h : w.ownsRow base e size v n xs) (hm : ∀ k, v.ownBlock = some k → w1.heap[k]? = w.heap[k]?) : w1.ownsRow base e size v n xs := by
 obtain ⟨h1, h2⟩ := h
 refine ⟨h1, ?_⟩
 rcases h2 with h2 | ⟨g, cap, cur, rfl, hg, hh, r⟩
 · exact .inl h2
 · exact .inr ⟨g, cap, cur, rfl, hg, (hm g (by simp [Value.ownBlock])).trans hh, r⟩
theorem own_typed {w : World} {base : Nat} {e : TypeId} {size n : Nat} {v : Value} {xs : List Value} (h : w.ownsRow base e size v n xs) (k : Nat) (hk : v.ownBlock = some k) : ∃ cells, w.heap[k]? = some (.cells cells e (0, 0)) := by
 rcases h.2 with ⟨rfl, _⟩ | ⟨g, cap, cur, rfl, hg, hh, r⟩
 · simp [Value.ownBlock] at hk
 · have : g = k := by simpa [Value.ownBlock] using hk
   subst this
   exact ⟨cur, hh⟩
namespace Kd
def C {α : Type} (d : Kd α) (w : World) (A : Option Addr) (n : Nat) (xs : List α) : Prop := ReadsRow (d.K w) d.sz w A n xs
def R {α : Type} (d : Kd α) (e : Nat) (w : World) (base : Nat) (ok : Nat → Prop) (v : Value) (xs : List α) : Prop :=
 (∀ k, v.ownBlock = some k → ok k) ∧ OwnRow (d.M w base (fun k => ok k ∧ some k ≠ v.ownBlock)) e d.sz w base v xs
section
variable {α : Type} {d : Kd α} {e : Nat} {w w1 : World} {base : Nat} {ok ok' : Nat → Prop} {v : Value} {xs : List α}
theorem C_below {A : Option Addr} {n : Nat} (h : d.C w A n xs) (hb : Below w.heap.size w w1) : d.C w1 A n xs := ReadsRow.imp_ h hb (fun _ _ hp => d.K_below hb hp)
theorem R_mono (h : d.R e w base ok v xs) (hok : ∀ k, ok k → ok' k) : d.R e w base ok' v xs := ⟨fun k hk => hok k (h.1 k hk), h.2.imp_ (fun _ _ hp => d.M_mono (fun k hk => ⟨hok k hk.1, hk.2⟩) hp)⟩
theorem R_bound (h : d.R e w base ok v xs) : d.R e w base (fun k => ok k ∧ base ≤ k ∧ k < w.heap.size ∧ ∃ q, q ∈ e :: d.E ∧ ∃ cells, w.heap[k]? = some (.cells cells q (0, 0))) v xs := by
 obtain ⟨h0, inner, ho, hr⟩ := h
 refine ⟨fun k hk => ?_, inner, ho, hr.imp_ (fun _ _ hp => d.M_mono (fun k hk => ?_) (d.M_bound hp))⟩
 · obtain ⟨cells, hc⟩ := own_typed ho k hk
   exact ⟨h0 k hk, own_base ho k hk, own_lt ho k hk, e, List.mem_cons_self, cells, hc⟩
 · obtain ⟨⟨h1, h2⟩, h3, h4, q, hq, hc⟩ := hk
   exact ⟨⟨h1, h3, h4, q, List.mem_cons_of_mem _ hq, hc⟩, h2⟩
theorem R_move (h : d.R e w base ok v xs) (hm : ∀ k, ok k → w1.heap[k]? = w.heap[k]?) : d.R e w1 base ok v xs := by
 obtain ⟨h0, inner, ho, hr⟩ := h
 exact ⟨h0, inner, own_move ho (fun k hk => hm k (h0 k hk)), hr.imp_ (fun _ _ hp => d.M_move (fun k hk => hm k hk.1) hp)⟩
theorem R_lower {base' : Nat} (h : d.R e w base ok v xs) (hb : base' ≤ base) : d.R e w base' ok v xs := by
 obtain ⟨h0, inner, ho, hr⟩ := h
 exact ⟨h0, inner, own_weaken ho hb, hr.imp_ (fun _ _ hp => d.M_lower hb hp)⟩
theorem R_step (h : d.R e w base ok v xs) (hm : ∀ k, ok k → k < w.heap.size → w1.heap[k]? = w.heap[k]?) : d.R e w1 base ok v xs :=
 R_mono (R_move (R_bound h) (fun k hk => hm k hk.1 hk.2.2.1)) (fun _ hk => hk.1)
theorem M_step {x : α} {cs : List Value} (h : d.M w base ok x cs) (hm : ∀ k, ok k → k < w.heap.size → w1.heap[k]? = w.heap[k]?) : d.M w1 base ok x cs :=
 d.M_mono (fun _ hk => hk.1) (d.M_move (fun k hk => hm k hk.1 hk.2.2.1) (d.M_bound h))
theorem R_below (h : d.R e w base ok v xs) (hb : Below w.heap.size w w1) : d.R e w1 base ok v xs := R_step h (fun k _ hk => hb.block k hk)
theorem M_below {x : α} {cs : List Value} (h : d.M w base ok x cs) (hb : Below w.heap.size w w1) : d.M w1 base ok x cs := M_step h (fun k _ hk => hb.block k hk)
theorem R_far (h : d.R e w base ok v xs) {p : Addr} (hok : ∀ k, ok k → k ≠ p.block) (u : Value) : d.R e (w.setCell p u) base ok v xs := R_step h (fun k ho _ => Below.heap_setCell w p u k (hok k ho))
theorem R_reads (h : d.R e w base ok v xs) : ∃ A c, v = .slice A xs.length c ∧ xs.length ≤ c ∧ d.C w A xs.length xs := by
 obtain ⟨A, c, he, hl, hr⟩ := OwnRow.reads h.2
 exact ⟨A, c, he, hl, hr.imp_ (Below.refl _ _) (fun _ _ hp => d.K_of_M hp)⟩
theorem R_slice (h : d.R e w base ok v xs) : ∃ A c, v = .slice A xs.length c := by
 obtain ⟨A, c, he, _⟩ := R_reads h
 exact ⟨A, c, he⟩
theorem R_own (h : d.R e w base ok v xs) : ∃ inner, w.ownsRow base e d.sz v xs.length inner := by
 obtain ⟨_, inner, ho, _⟩ := h
 exact ⟨inner, ho⟩
end
def scalar {α : Type} (enc : α → Value) (h1 : ∀ x, (enc x).oneCell' = true) : Kd α where
 sz := 1
 E := []
 K := fun _ x cs => cs = [enc x]
 M := fun _ _ _ x cs => cs = [enc x]
 K_len := fun h => by rw [h]; rfl
 K_one := fun h u hu => by
   rw [h] at hu
   rw [List.mem_singleton.1 hu]
   exact h1 _
 K_below := fun _ h => h
 K_of_M := fun h => h
 M_mono := fun _ h => h
 M_bound := fun h => h
 M_move := fun _ h => h
 M_lower := fun _ h => h
def int (k : IntKind) : Kd Int := scalar (Value.int k) (fun _ => rfl)
def bool : Kd Bool := scalar Value.bool (fun _ => rfl)
def string : Kd ByteArray := scalar Value.string (fun _ => rfl)
def slice {α : Type} (e : Nat) (d : Kd α) : Kd (List α) where
 sz := 1
 E := e :: d.E
 K := fun w xs cs => ∃ A c, cs = [.slice A xs.length c] ∧ xs.length ≤ c ∧ d.C w A xs.length xs
 M := fun w base ok xs cs => ∃ v, cs = [v] ∧ d.R e w base ok v xs
 K_len := by
   rintro w x cs ⟨A, c, rfl, _⟩
   rfl
 K_one := by
   rintro w x cs ⟨A, c, rfl, _⟩ u hu
   rw [List.mem_singleton.1 hu]
   rfl
 K_below := by
   rintro w w1 x cs hb ⟨A, c, rfl, hl, hr⟩
   exact ⟨A, c, rfl, hl, C_below hr hb⟩
 K_of_M := by
   rintro w base ok x cs ⟨v, rfl, h⟩
   obtain ⟨A, c, rfl, hl, hr⟩ := R_reads h
   exact ⟨A, c, rfl, hl, hr⟩
 M_mono := by
   rintro w base ok ok' x cs hok ⟨v, rfl, h⟩
   exact ⟨v, rfl, R_mono h hok⟩
 M_bound := by
   rintro w base ok x cs ⟨v, rfl, h⟩
   exact ⟨v, rfl, R_bound h⟩
 M_move := by
   rintro w w1 base ok x cs hm ⟨v, rfl, h⟩
   exact ⟨v, rfl, R_move h hm⟩
 M_lower := by
   rintro w base base' ok x cs hb ⟨v, rfl, h⟩
   exact ⟨v, rfl, R_lower h hb⟩
def pair {α β : Type} (a : Kd α) (b : Kd β) : Kd (α × β) where
 sz := a.sz + b.sz
 E := a.E ++ b.E
 K := fun w x cs => ∃ c0 c1, cs = c0 ++ c1 ∧ a.K w x.1 c0 ∧ b.K w x.2 c1
 M := fun w base ok x cs => ∃ c0 c1, cs = c0 ++ c1 ∧ a.M w base ok x.1 c0 ∧ b.M w base ok x.2 c1
 K_len := by
   rintro w x cs ⟨c0, c1, rfl, h0, h1⟩
   rw [List.length_append, a.K_len h0, b.K_len h1]
 K_one := by
   rintro w x cs ⟨c0, c1, rfl, h0, h1⟩ u hu
   rcases List.mem_append.1 hu with hu | hu
   · exact a.K_one h0 u hu
   · exact b.K_one h1 u hu
 K_below := by
   rintro w w1 x cs hb ⟨c0, c1, rfl, h0, h1⟩
   exact ⟨c0, c1, rfl, a.K_below hb h0, b.K_below hb h1⟩
 K_of_M := by
   rintro w base ok x cs ⟨c0, c1, rfl, h0, h1⟩
   exact ⟨c0, c1, rfl, a.K_of_M h0, b.K_of_M h1⟩
 M_mono := by
   rintro w base ok ok' x cs hok ⟨c0, c1, rfl, h0, h1⟩
   exact ⟨c0, c1, rfl, a.M_mono hok h0, b.M_mono hok h1⟩
 M_bound := by
   rintro w base ok x cs ⟨c0, c1, rfl, h0, h1⟩
   refine ⟨c0, c1, rfl, a.M_mono ?_ (a.M_bound h0), b.M_mono ?_ (b.M_bound h1)⟩
   · rintro k ⟨h2, h3, h4, q, hq, hc⟩
     exact ⟨h2, h3, h4, q, List.mem_append_left _ hq, hc⟩
   · rintro k ⟨h2, h3, h4, q, hq, hc⟩
     exact ⟨h2, h3, h4, q, List.mem_append_right _ hq, hc⟩
 M_move := by
   rintro w w1 base ok x cs hm ⟨c0, c1, rfl, h0, h1⟩
   exact ⟨c0, c1, rfl, a.M_move hm h0, b.M_move hm h1⟩
 M_lower := by
   rintro w base base' ok x cs hb ⟨c0, c1, rfl, h0, h1⟩
   exact ⟨c0, c1, rfl, a.M_lower hb h0, b.M_lower hb h1⟩
def iso {α β : Type} (d : Kd α) (f : β → α) : Kd β where
 sz := d.sz
 E := d.E
 K := fun w x cs => d.K w (f x) cs
 M := fun w base ok x cs => d.M w base ok (f x) cs
 K_len := d.K_len
 K_one := d.K_one
 K_below := d.K_below
 K_of_M := d.K_of_M
 M_mono := d.M_mono
 M_bound := d.M_bound
 M_move := d.M_move
 M_lower := d.M_lower
def bot {α : Type} (sz : Nat) (E : List Nat) : Kd α where
 sz := sz
 E := E
 K := fun _ _ _ => False
 M := fun _ _ _ _ _ => False
 K_len := fun h => h.elim
 K_one := fun h => h.elim
 K_below := fun _ h => h
 K_of_M := fun h => h
 M_mono := fun _ h => h
 M_bound := fun h => h
 M_move := fun _ h => h
 M_lower := fun _ h => h
theorem C_get {α : Type} {d : Kd α} {w : World} {A : Option Addr} {n : Nat} {xs : List α} (h : d.C w A n xs) (z : α) (i : Int) (h0 : 0 ≤ i) (h1 : i < n) :
   ∃ ad c, A = some ad ∧ c.length = d.sz ∧ d.K w (xs.getD i.toNat z) c ∧ ∀ j u, c[j]? = some u → w.cell? (ad.add (i.toNat * d.sz + j)) = some u := ReadsRow.get_ h z i h0 h1
theorem R_appended {α : Type} {d : Kd α} {e base : Nat} {ok okp : Nat → Prop} {W w1 : World} {v v1 : Value} {xs : List α} {p : α} {inner cs : List Value} (h0 : ∀ k, v.ownBlock = some k → ok k) (hr : Reps (d.M W base (fun k => ok k ∧ some k ≠ v.ownBlock)) d.sz xs inner) (hp : d.M W base okp p cs) (hokp : ∀ k, okp k → ok k ∧ some k ≠ v.ownBlock) (hfresh : ∀ k, W.heap.size ≤ k → ok k)
   (hown : w1.ownsRow base e d.sz v1 (xs.length + 1) (inner ++ cs)) (hg : W.grownBy w1 v.ownBlock) (hat : v1.ownBlock = v.ownBlock ∨ ∃ b, v1.ownBlock = some b ∧ W.heap.size ≤ b) : d.R e w1 base ok v1 (xs ++ [p]) := by
 have hne : ∀ k, some k ≠ v.ownBlock → k < W.heap.size → some k ≠ v1.ownBlock := by
   intro k hk hlt
   rcases hat with hat | ⟨b, hb, hle⟩
   · rw [hat]; exact hk
   · rw [hb]
     intro he
     injection he with he
     omega
 have step : ∀ {q : α} {c : List Value} {o : Nat → Prop}, d.M W base o q c → (∀ k, o k → ok k ∧ some k ≠ v.ownBlock) → d.M w1 base (fun k => ok k ∧ some k ≠ v1.ownBlock) q c := by
   intro q c o hq ho
   have h1 := d.M_move (w1 := w1) (fun k hk => hg.block k hk.2.2.1 (ho k hk.1).2) (d.M_bound hq)
   exact d.M_mono (fun k hk => ⟨(ho k hk.1).1, hne k (ho k hk.1).2 hk.2.2.1⟩) h1
 refine ⟨fun k hk => ?_, inner ++ cs, by rw [List.length_append, List.length_singleton]; exact hown, ?_⟩
 · rcases hat with hat | ⟨b, hb, hle⟩
   · exact h0 k (hat ▸ hk)
   · rw [hb] at hk
     injection hk with hk
     exact hfresh k (by omega)
 · exact (hr.imp_ (fun _ _ hq => step hq (fun _ hk => hk))).snoc (step hp hokp) (d.K_len (d.K_of_M hp))
section
variable {P : Program} {ops : Array Oper} {rest : List Oper} {o : Oper} {a : Act} {Q : Exit → Act → World → Prop} {α : Type}
theorem R_append (d : Kd α) {w0 W : World} (base : Nat) (hgd : o.guard = none) (s x : Operand) (t e : TypeId) (z : Value) (bytes : Nat)
   (ho : o.op = .call { callee := .builtin .append, args := #[s, x], argTypes := #[t, t] })
   (ht : P.underlying t = some (.slice e)) (hinfo : (P.info? e).map (fun i => (i.zero, i.size, i.bytes)) = some (some z, d.sz, bytes)) (hz : z.cells.size = d.sz) (hs0 : 0 < d.sz) (hb0 : 0 < bytes)
   (v : Value) (xs : List α) (p : α) (cs : List Value) (ok okp : Nat → Prop) (hs : a.eval s = v) (hx : a.eval x = .slice (some ⟨W.heap.size, 0, none⟩) 1 1) (hp : d.M W base okp p cs) (hokp : ∀ k, okp k → ok k ∧ some k ≠ v.ownBlock) (hfresh : ∀ k, W.heap.size ≤ k → ok k)
   (HO : d.R e W base ok v xs) (HB : Below base w0 W) (hbase : base ≤ W.heap.size) (hl : (xs.length + 1) * bytes ≤ 140737488355328)
   (h : ∀ v1 w1, d.R e w1 base ok v1 (xs ++ [p]) → Below base w0 w1 → W.grownBy w1 v.ownBlock → (v1.ownBlock = v.ownBlock ∨ ∃ b, v1.ownBlock = some b ∧ W.heap.size ≤ b) → wpList P ops Q rest (a.put o.dst v1) w1) :
   wpList P ops Q (o :: rest) a (W.alloc (.cells cs.toArray e)) := by
 obtain ⟨h0, inner, hown, hr⟩ := HO
 refine print_append_cells base hgd s x t e z d.sz bytes ho ht hinfo hz hs0 hb0 v xs.length inner cs hs hx (d.K_len (d.K_of_M hp)) (d.K_one (d.K_of_M hp)) hown HB hbase hl ?_
 intro v1 w1 hown1 hb1 hg1 hat1
 exact h v1 w1 (R_appended h0 hr hp hokp hfresh hown1 hg1 hat1) hb1 hg1 hat1
end
end Kd
namespace Kd
theorem R_after {α : Type} {d : Kd α} {e base : Nat} {ok : Nat → Prop} {W w1 : World} {u v v1 : Value} {xs : List α} (h : d.R e W base (fun k => ok k ∧ some k ≠ v.ownBlock) u xs) (hg : W.grownBy w1 v.ownBlock) (hat : v1.ownBlock = v.ownBlock ∨ ∃ b, v1.ownBlock = some b ∧ W.heap.size ≤ b) : d.R e w1 base (fun k => ok k ∧ some k ≠ v1.ownBlock) u xs := by
 refine R_mono (R_move (R_bound h) (fun k hk => hg.block k hk.2.2.1 hk.1.2)) (fun k hk => ⟨hk.1.1, ?_⟩)
 rcases hat with hat | ⟨b, hb, hle⟩
 · rw [hat]; exact hk.1.2
 · rw [hb]
   intro he
   injection he with he
   have := hk.2.2.1
   omega
end Kd
namespace Kd
section
variable {α β : Type} {d : Kd α} {d' : Kd β} {e e' : Nat} {w w1 W : World} {base b b' : Nat} {ok ok' okv oku : Nat → Prop} {v u : Value} {xs : List α} {ys : List β}
theorem R_drewN (h : d.R e w base ok v xs) (m : Nat) : d.R e (w.drewN m) base ok v xs := R_below h (pw_below_drewN (Below.refl _ _) m)
theorem R_reads' {A : Option Addr} {n c : Nat} (h : d.R e w base ok (.slice A n c) xs) : n = xs.length ∧ n ≤ c ∧ d.C w A xs.length xs := by
 obtain ⟨A', c', he, hl, hr⟩ := R_reads h
 injection he with h1 h2 h3
 subst h1
 exact ⟨h2, by omega, hr⟩
theorem R_lt (h : d.R e w base ok v xs) : ∀ k, v.ownBlock = some k → k < w.heap.size := by
 obtain ⟨inner, ho⟩ := R_own h
 exact own_lt ho
theorem R_base (h : d.R e w base ok v xs) : ∀ k, v.ownBlock = some k → base ≤ k := by
 obtain ⟨inner, ho⟩ := R_own h
 exact own_base ho
theorem R_away (h : d.R e w base ok v xs) {g : Nat} (hok : ∀ k, ok k → k ≠ g) : some g ≠ v.ownBlock := fun e => hok g (h.1 g e.symm) rfl
theorem R_form (h : d.R e w base ok v xs) (hp : 0 < xs.length) : ∃ g cap, v = .slice (some ⟨g, 0, none⟩) xs.length cap ∧ base ≤ g ∧ g < w.heap.size ∧ ∃ cells, w.heap[g]? = some (.cells cells e (0, 0)) := by
 obtain ⟨inner, ho⟩ := R_own h
 obtain ⟨g, cap, he, hb, hl⟩ := ho.form hp
 obtain ⟨cells, hc⟩ := own_typed ho g (by rw [he]; simp [Value.ownBlock])
 exact ⟨g, cap, he, hb, hl, cells, hc⟩
end
section
variable {P : Program} {ops : Array Oper} {rest : List Oper} {o : Oper} {a : Act} {Q : Exit → Act → World → Prop}
theorem event_run {W w1 : World} {v : Value} (hgd : o.guard = none) (hrun : (execOp a.eval o).run P W = .ok (.value v) w1) (h : wpList P ops Q rest (a.put o.dst v) w1) : wpList P ops Q (o :: rest) a W := by
 refine wpList_plain hgd fun K hK => ?_
 unfold Oper.wp
 rw [hrun]
 exact hK _ _ h
variable {α : Type}
theorem R_lit (d : Kd α) {w0 W : World} (base e : Nat) (hgd : o.guard = none) {N : Tmp} (_hd : o.dst = some N) {xs : List α} {inner : List Value} {ok okp : Nat → Prop}
   (hrun : (execOp a.eval o).run P W = .ok (.value (.slice (some ⟨W.heap.size, 0, none⟩) xs.length xs.length)) (W.alloc (.cells inner.toArray e)))
   (hrep : Reps (d.M W base okp) d.sz xs inner) (hok : ∀ k, okp k → ok k) (hfresh : ok W.heap.size) (HB : Below base w0 W) (hbase : base ≤ W.heap.size) (hm : xs.length ≤ 9223372036854775807)
   (h : ∀ v1 w1, d.R e w1 base ok v1 xs → Below base w0 w1 → W.grownBy w1 none → (∃ b, v1.ownBlock = some b ∧ W.heap.size ≤ b) → wpList P ops Q rest (a.put o.dst v1) w1) : wpList P ops Q (o :: rest) a W := by
 refine event_run hgd hrun (h _ _ ⟨fun k hk => ?_, inner, ?_, ?_⟩ (HB.alloc hbase _) (World.grownBy_alloc W _ none) ⟨W.heap.size, by simp [Value.ownBlock], Nat.le_refl _⟩)
 · have : W.heap.size = k := by simpa [Value.ownBlock] using hk
   subst this
   exact hfresh
 · have h2 := World.ownsRow_lit (base := base) (e := e) (size := d.sz) W inner.toArray xs.length hbase (by simpa [maxLen] using hm) (by simpa using hrep.1)
   simpa using h2
 · refine hrep.imp_ (fun p c hp => d.M_mono (fun k hk => ⟨hok k hk.1, fun he => ?_⟩) (M_below (d.M_bound hp) (below_alloc (Below.refl _ _) _)))
   have h3 : k = W.heap.size := by simpa [Value.ownBlock] using he
   have := hk.2.2.1
   omega
theorem reps_made {α : Type} {R : α → List Value → Prop} {z : Value} {size : Nat} {z0 : α} (hz : z.cells.size = size) (hs : 0 < size) (h0 : R z0 z.cells.toList) (m : Nat) : Reps R size (List.replicate m z0) (madeCells z.cells (m * size)).toList := by
 refine ⟨by simp [size_madeCells], fun j p hj => ?_⟩
 obtain ⟨hjl, hp⟩ := List.getElem?_eq_some_iff.1 hj
 have hjm : j < m := by simpa using hjl
 have hp' : z0 = p := by simpa using hp
 subst hp'
 have hle : j * size + size ≤ m * size := by rw [← Nat.succ_mul]; exact Nat.mul_le_mul_right _ hjm
 have : ((madeCells z.cells (m * size)).toList.drop (j * size)).take size = z.cells.toList := by
   apply List.ext_getElem
   · simp [size_madeCells, hz]
     omega
   · intro i h1 h2
     have hi : i < size := by rw [Array.length_toList, hz] at h2; exact h2
     have hmod : (j * size + i) % size = i := by
       rw [Nat.mul_comm, Nat.mul_add_mod]
       exact Nat.mod_eq_of_lt hi
     simp [madeCells, hz, hmod]
     rw [getElem!_pos z.cells i (by omega)]
 rw [this]
 exact h0
theorem R_make (d : Kd α) {w0 W : World} (base e : Nat) (hgd : o.guard = none) {N : Tmp} (hd : o.dst = some N) (t : TypeId) (x y : Operand) (ho : o.op = .makeSlice t x y) (n : Int) (hx : a.eval x = .int .i64 n) (hy : a.eval y = .int .i64 n)
   (ht : P.underlying t = some (.slice e)) (z : Value) (bytes : Nat) (hinfo : (P.info? e).map (fun i => (i.zero, i.size, i.bytes)) = some (some z, d.sz, bytes)) (hz : z.cells.size = d.sz) (hs0 : 0 < d.sz) (hb0 : 0 < bytes)
   (z0 : α) {ok okp : Nat → Prop} (hzero : d.M W base okp z0 z.cells.toList) (hok : ∀ k, okp k → ok k) (hfresh : ok W.heap.size) (h0 : 0 ≤ n) (hl : n.toNat * bytes ≤ 281474976710656) (HB : Below base w0 W) (hbase : base ≤ W.heap.size)
   (h : ∀ v1 w1, d.R e w1 base ok v1 (List.replicate n.toNat z0) → Below base w0 w1 → W.grownBy w1 none → (∃ b, v1.ownBlock = some b ∧ W.heap.size ≤ b) → wpList P ops Q rest (a.put o.dst v1) w1) : wpList P ops Q (o :: rest) a W := by
 obtain ⟨m, rfl⟩ := Int.eq_ofNat_of_zero_le h0
 simp only [Int.toNat_natCast] at hl h
 obtain ⟨i0, hi, hzz⟩ := Option.map_eq_some_iff.1 hinfo
 simp only [Prod.mk.injEq] at hzz
 obtain ⟨hz0, hz1, hz2⟩ := hzz
 have hm : m ≤ 281474976710656 := Nat.le_trans (Nat.le_mul_of_pos_right _ hb0) hl
 have hr := run_make (P := P) W t e i0 z ht hi hz0 .i64 .i64 (m : Int) (m : Int) (by omega) (by omega)
   (by
     have h3 : ((i0.bytes * m : Nat) : Int) ≤ 281474976710656 := by rw [hz2, Nat.mul_comm]; omega
     rwa [Int.natCast_mul] at h3) (by omega)
 simp only [Int.toNat_natCast] at hr
 rw [hz1] at hr
 refine R_lit d base e hgd hd (xs := List.replicate m z0) (inner := (madeCells z.cells (m * d.sz)).toList) (okp := okp) (ok := ok) ?_ (reps_made hz hs0 hzero m) hok hfresh HB hbase (by simp; omega) h
 simp [execOp, ho, hx, hy, hr]
end
end Kd
def QRow (w : World) (base : Nat) (e : TypeId) (size : Nat) (v : Value) (n : Nat) (xs : List Value) : Prop :=
 xs.length = n * size ∧
 ((n = 0 ∧ ∃ A, v = .slice A 0 0 ∧ ∀ a, A = some a → base ≤ a.block ∧ ∃ cur, w.heap[a.block]? = some (.cells cur e (0, 0))) ∨
  ∃ g off cap cur, v = .slice (some ⟨g, off * size, none⟩) n cap ∧ base ≤ g ∧ w.heap[g]? = some (.cells cur e (0, 0)) ∧ n ≤ cap ∧ off + cap ≤ maxLen ∧ cur.size = (off + cap) * size ∧ (cur.toList.drop (off * size)).take (n * size) = xs)
section
variable {w w1 : World} {base n size : Nat} {e : TypeId} {v : Value} {xs : List Value}
theorem setCells_far {g : Nat} : ∀ (vs : List Value) (o : Nat) {w : World} (k : Nat), k ≠ g → (w.setCells g o vs).heap[k]? = w.heap[k]?
 | [], _, _, _, _ => rfl
 | v :: r, o, w, k, hk => by
   rw [World.setCells, setCells_far r (o + 1) k hk]
   exact Below.heap_setCell w ⟨g, o, none⟩ v k hk
theorem setCells_same (g : Nat) : ∀ (vs : List Value) (o : Nat) (w : World), (w.setCells g o vs).os = w.os ∧ (w.setCells g o vs).tape = w.tape ∧ (w.setCells g o vs).output = w.output ∧ (w.setCells g o vs).heap.size = w.heap.size
 | [], _, _ => ⟨rfl, rfl, rfl, rfl⟩
 | v :: r, o, w => by
   obtain ⟨h1, h2, h3, h4⟩ := setCells_same g r (o + 1) (w.setCell ⟨g, o, none⟩ v)
   rw [World.setCells]
   exact ⟨h1, h2, h3, by rw [h4]; simp [World.setCell]⟩
theorem setCells_row {g : Nat} {e : TypeId} : ∀ (vs : List Value) (o : Nat) (w : World) (cur : Array Value), w.heap[g]? = some (.cells cur e (0, 0)) → o + vs.length ≤ cur.size →
   ∃ cur', (w.setCells g o vs).heap[g]? = some (.cells cur' e (0, 0)) ∧ cur'.size = cur.size ∧ cur'.toList = cur.toList.take o ++ vs ++ cur.toList.drop (o + vs.length)
 | [], o, w, cur, h, _ => ⟨cur, h, rfl, by simp⟩
 | v :: r, o, w, cur, h, hl => by
   have h2 := blk_set h o v
   simp only [List.length_cons] at hl
   obtain ⟨cur', h3, h4, h5⟩ := setCells_row r (o + 1) (w.setCell ⟨g, o, none⟩ v) _ h2 (by simp; omega)
   refine ⟨cur', h3, by rw [h4]; simp, ?_⟩
   rw [h5, Array.toList_setIfInBounds]
   have ho : o < cur.toList.length := by rw [Array.length_toList]; omega
   rw [List.take_set, List.drop_set_of_lt (by omega)]
   simp only [List.length_cons]
   rw [show o + 1 + r.length = o + (r.length + 1) by omega]
   congr 1
   rw [List.take_succ_eq_append_getElem ho, List.set_append_right _ _ (by rw [List.length_take]; omega)]
   have ho' : o < cur.size := by omega
   simp [Nat.min_eq_left (Nat.le_of_lt ho')]
end
namespace Kd
def Q {α : Type} (d : Kd α) (e : Nat) (w : World) (base : Nat) (ok : Nat → Prop) (v : Value) (xs : List α) : Prop :=
 (∀ k, v.ownBlock = some k → ok k) ∧ ∃ inner, QRow w base e d.sz v xs.length inner ∧ Reps (d.M w base (fun k => ok k ∧ some k ≠ v.ownBlock)) d.sz xs inner
end Kd
namespace Kd
section
variable {α : Type} {d : Kd α} {e e' : Nat} {w w1 W : World} {base : Nat} {ok : Nat → Prop} {u v : Value} {xs : List α}
theorem R_elder' (hu : d.R e W base ok u xs) (hbase : ∀ k, v.ownBlock = some k → W.heap.size ≤ k) (hb : Below W.heap.size W w1) : d.R e w1 base (fun k => ok k ∧ some k ≠ v.ownBlock) u xs :=
 R_mono (R_move (R_bound hu) (fun k hk => hb.block k hk.2.2.1)) (fun k hk => ⟨hk.1, fun he => by have := hbase k he.symm; have := hk.2.2.1; omega⟩)
theorem R_new' (h : d.R e w1 W.heap.size ok v xs) (hlt : ∀ k, u.ownBlock = some k → k < W.heap.size) : d.R e w1 W.heap.size (fun k => ok k ∧ some k ≠ u.ownBlock) v xs :=
 R_mono (R_bound h) (fun k hk => ⟨hk.1, fun he => by have := hlt k he.symm; have := hk.2.1; omega⟩)
theorem fresh' (hlt : ∀ k, u.ownBlock = some k → k < W.heap.size) : ∀ k, W.heap.size ≤ k → some k ≠ u.ownBlock := fun k hk he => by have := hlt k he.symm; omega
end
end Kd
theorem seg_get {α : Type} (a seg : List α) (o : Nat) (h : o + seg.length ≤ a.length) (q : Nat) :
   (a.take o ++ seg ++ a.drop (o + seg.length))[q]? = if q < o then a[q]? else if q < o + seg.length then seg[q - o]? else a[q]? := by
 have hl : (a.take o).length = o := by rw [List.length_take]; omega
 rw [List.append_assoc]
 by_cases h1 : q < o
 · rw [if_pos h1, List.getElem?_append_left (by omega), List.getElem?_take, if_pos h1]
 · rw [if_neg h1, List.getElem?_append_right (by omega), hl]
   by_cases h2 : q < o + seg.length
   · rw [if_pos h2, List.getElem?_append_left (by omega)]
   · rw [if_neg h2, List.getElem?_append_right (by omega), List.getElem?_drop]
     congr 1
     omega
namespace Kd
section
variable {α : Type} {d : Kd α} {e base g n cap : Nat} {ok okp : Nat → Prop} {W : World} {xs : List α}
theorem R_elem (h : d.R e W base ok (.slice (some ⟨g, 0, none⟩) n cap) xs) (z : α) (i : Int) (h0 : 0 ≤ i) (h1 : i < n) :
   ∃ c, c.length = d.sz ∧ d.M W base (fun k => ok k ∧ k ≠ g) (xs.getD i.toNat z) c ∧ (∀ j u, c[j]? = some u → W.cell? ⟨g, i.toNat * d.sz + j, none⟩ = some u) ∧ ∀ j, W.frozen? ⟨g, i.toNat * d.sz + j, none⟩ = false := by
 obtain ⟨hn, hnc, hC⟩ := R_reads' h
 obtain ⟨_, inner, ho, hr⟩ := h
 have hil : i.toNat < xs.length := by omega
 have hseg : i.toNat * d.sz + d.sz ≤ inner.length := by rw [hr.1, ← Nat.succ_mul]; exact Nat.mul_le_mul_right _ hil
 have hM := hr.2 i.toNat _ (List.getElem?_eq_getElem hil)
 refine ⟨(inner.drop (i.toNat * d.sz)).take d.sz, by rw [List.length_take, List.length_drop]; omega, ?_, fun j u hu => ?_, fun j => ?_⟩
 · rw [List.getD_eq_getElem?_getD, List.getElem?_eq_getElem hil]
   exact d.M_mono (fun k hk => ⟨hk.1, fun he => hk.2 (by rw [he]; simp [Value.ownBlock])⟩) hM
 · rw [List.getElem?_take] at hu
   split at hu
   · rw [List.getElem?_drop] at hu
     have := ho.cells (g := g) (by simp [Value.ownBlock]) _ u hu
     rwa [add_plain] at this
   · cases hu
 · obtain ⟨cells, hc⟩ := own_typed ho g (by simp [Value.ownBlock])
   exact blk_frozen hc _
theorem R_seg (h : d.R e W base ok (.slice (some ⟨g, 0, none⟩) n cap) xs) (i : Int) (h0 : 0 ≤ i) (h1 : i < n) {c seg : List Value} {j : Nat} (hcl : c.length = d.sz) (hcc : ∀ j u, c[j]? = some u → W.cell? ⟨g, i.toNat * d.sz + j, none⟩ = some u)
   (hj : j + seg.length ≤ d.sz) {x' : α} (hM : d.M W base okp x' (c.take j ++ seg ++ c.drop (j + seg.length))) (hokp : ∀ k, okp k → ok k ∧ k ≠ g) :
   d.R e (W.setCells g (i.toNat * d.sz + j) seg) base ok (.slice (some ⟨g, 0, none⟩) n cap) (xs.set i.toNat x') ∧ W.grownBy (W.setCells g (i.toNat * d.sz + j) seg) (some g) := by
 obtain ⟨hn, hnc, _⟩ := R_reads' h
 obtain ⟨hok, inner, ho, hr⟩ := h
 have hil : i.toNat < xs.length := by omega
 have hseg : i.toNat * d.sz + d.sz ≤ inner.length := by rw [hr.1, ← Nat.succ_mul]; exact Nat.mul_le_mul_right _ hil
 have hin : inner.length = n * d.sz := by rw [hr.1, hn]
 obtain ⟨ho1, ho2⟩ := ho
 rcases ho2 with ⟨hv, _⟩ | ⟨g', cap', cur, hv, hb, hh, hnc', hcm, hcs, ht⟩
 · cases hv
 injection hv with ha _ hc
 injection ha with ha
 injection ha with hg
 subst hg; subst hc
 have hfit : i.toNat * d.sz + j + seg.length ≤ cur.size := by
   have : n * d.sz ≤ cap * d.sz := Nat.mul_le_mul_right _ hnc
   omega
 obtain ⟨cur', h3, h4, h5⟩ := setCells_row seg (i.toNat * d.sz + j) W cur hh hfit
 obtain ⟨s1, s2, s3, s4⟩ := setCells_same g seg (i.toNat * d.sz + j) W
 have hfar : ∀ k, k ≠ g → (W.setCells g (i.toNat * d.sz + j) seg).heap[k]? = W.heap[k]? := fun k hk => setCells_far seg _ k hk
 have hcin : ∀ q, q < d.sz → c[q]? = inner[i.toNat * d.sz + q]? := by
   intro q hq
   have hq' : q < c.length := by omega
   have h6 := hcc q _ (List.getElem?_eq_getElem hq')
   rw [cell_of_row W g _ cur e (0, 0) hh] at h6
   rw [List.getElem?_eq_getElem hq', ← h6, ← ht, List.getElem?_take, if_pos (by rw [← hn]; omega), Array.getElem?_toList]
 refine ⟨⟨hok, inner.take (i.toNat * d.sz + j) ++ seg ++ inner.drop (i.toNat * d.sz + j + seg.length), ⟨?_, .inr ⟨g, cap, cur', by rw [List.length_set, hn], hb, h3, by rw [List.length_set, ← hn]; exact hnc, hcm, by rw [h4, hcs], ?_⟩⟩, ?_⟩,
   ⟨s1, s2, s3, by rw [s4]; exact Nat.le_refl _, fun k _ hk => hfar k (fun he => hk (by rw [he]))⟩⟩
 · rw [List.length_set]
   simp only [List.length_append, List.length_take, List.length_drop]
   rw [hr.1] at hseg ⊢
   omega
 · rw [List.length_set, ← hn]
   apply List.ext_getElem?
   intro q
   rw [List.getElem?_take, h5]
   rw [seg_get cur.toList seg (i.toNat * d.sz + j) (by rw [Array.length_toList]; omega) q, seg_get inner seg (i.toNat * d.sz + j) (by omega) q]
   have hcur : ∀ q, q < n * d.sz → cur.toList[q]? = inner[q]? := by
     intro q hq
     rw [← ht, List.getElem?_take, if_pos (by rw [← hn]; exact hq)]
   by_cases hq : q < n * d.sz
   · rw [if_pos hq, hcur q hq]
   · rw [if_neg hq, if_neg (by omega), if_neg (by omega), List.getElem?_eq_none (by omega)]
 · refine ⟨?_, fun m p hm => ?_⟩
   · rw [List.length_set]
     simp only [List.length_append, List.length_take, List.length_drop]
     rw [hr.1] at hseg ⊢
     omega
   · have hml : m < xs.length := by
       have := (List.getElem?_eq_some_iff.1 hm).1
       rwa [List.length_set] at this
     have hmfit : m * d.sz + d.sz ≤ inner.length := by rw [hr.1, ← Nat.succ_mul]; exact Nat.mul_le_mul_right _ hml
     have hgo : some g = (Value.slice (some ⟨g, 0, none⟩) n cap).ownBlock := by simp [Value.ownBlock]
     by_cases hmi : m = i.toNat
     · subst hmi
       rw [List.getElem?_set_self (by omega)] at hm
       injection hm with hm
       subst hm
       have hcells : ((inner.take (i.toNat * d.sz + j) ++ seg ++ inner.drop (i.toNat * d.sz + j + seg.length)).drop (i.toNat * d.sz)).take d.sz = c.take j ++ seg ++ c.drop (j + seg.length) := by
         apply List.ext_getElem?
         intro q
         rw [List.getElem?_take, List.getElem?_drop, seg_get inner seg _ (by omega), seg_get c seg j (by omega) q]
         by_cases hq : q < d.sz
         · rw [if_pos hq, hcin q hq]
           by_cases hq1 : q < j
           · rw [if_pos (by omega), if_pos hq1]
           · rw [if_neg (by omega), if_neg hq1]
             by_cases hq2 : q < j + seg.length
             · rw [if_pos (by omega), if_pos hq2]
               congr 1
               omega
             · rw [if_neg (by omega), if_neg hq2]
         · rw [if_neg hq, if_neg (by omega), if_neg (by omega), List.getElem?_eq_none (by omega)]
       rw [hcells]
       refine d.M_mono (fun k hk => ?_) (d.M_move (w1 := W.setCells g (i.toNat * d.sz + j) seg) (fun k hk => hfar k (hokp k hk).2) hM)
       exact ⟨(hokp k hk).1, fun he => (hokp k hk).2 (by rw [← hgo] at he; injection he)⟩
     · rw [List.getElem?_set_ne (by omega)] at hm
       have hold := hr.2 m p hm
       have hcells : ((inner.take (i.toNat * d.sz + j) ++ seg ++ inner.drop (i.toNat * d.sz + j + seg.length)).drop (m * d.sz)).take d.sz = (inner.drop (m * d.sz)).take d.sz := by
         apply List.ext_getElem?
         intro q
         rw [List.getElem?_take, List.getElem?_take, List.getElem?_drop, List.getElem?_drop, seg_get inner seg _ (by omega)]
         by_cases hq : q < d.sz
         · rw [if_pos hq, if_pos hq]
           rcases Nat.lt_or_gt_of_ne hmi with hlt | hgt
           · have : m * d.sz + d.sz ≤ i.toNat * d.sz := by rw [← Nat.succ_mul]; exact Nat.mul_le_mul_right _ hlt
             rw [if_pos (by omega)]
           · have : i.toNat * d.sz + d.sz ≤ m * d.sz := by rw [← Nat.succ_mul]; exact Nat.mul_le_mul_right _ hgt
             rw [if_neg (by omega), if_neg (by omega)]
         · rw [if_neg hq, if_neg hq]
       rw [hcells]
       refine d.M_move (fun k hk => hfar k (fun he => hk.2 (by rw [he]; exact hgo))) hold
end
end Kd
theorem below_size {w W : World} (h : Below w.heap.size w W) : w.heap.size ≤ W.heap.size := h.size
theorem below_step {w W w2 : World} (h : Below w.heap.size w W) (k : Below W.heap.size W w2) : Below w.heap.size w w2 := below_then h h.size k
theorem below_set {w W : World} {g j : Nat} {v : Value} (h : Below w.heap.size w W) (hg : w.heap.size ≤ g) : Below w.heap.size w (W.setCell ⟨g, j, none⟩ v) := h.setCell hg _
theorem blk_put {w : World} {g : Nat} {t : TypeId} {cs cs' : Array Value} (h : w.heap[g]? = some (.cells cs t (0, 0))) (i : Nat) (u : Value) (e : cs.setIfInBounds i u = cs') : (w.setCell ⟨g, i, none⟩ u).heap[g]? = some (.cells cs' t (0, 0)) := e ▸ blk_set h i u
theorem below_drew1 {base : Nat} {w W : World} (h : Below base w W) : Below base w W.drew := h.drew
namespace Kd
section
variable {α : Type} {d : Kd α} {e base g : Nat} {ok : Nat → Prop} {w w1 : World} {v : Value} {xs : List α} {o : Obj}
theorem R_elderB (h : d.R e w base ok v xs) (a : Nat) (ha : w.heap.size ≤ a) : d.R e w base (fun k => ok k ∧ k ≠ a) v xs := R_mono (R_bound h) (fun k hk => ⟨hk.1, by have := hk.2.2.1; omega⟩)
theorem R_newB (h : d.R e w1 w.heap.size ok v xs) (hb : w.heap[g]? = some o) : d.R e w1 w.heap.size (fun k => ok k ∧ k ≠ g) v xs := R_mono (R_bound h) (fun k hk => ⟨hk.1, by have := blk_lt hb; have := hk.2.1; omega⟩)
theorem freshB (hb : w.heap[g]? = some o) : ∀ k, w.heap.size ≤ k → k ≠ g := fun k hk => by have := blk_lt hb; omega
end
end Kd
section
variable {P : Program} {ops : Array Oper} {rest : List Oper} {o : Oper} {a : Act} {Q : Exit → Act → World → Prop}
theorem box_event {W : World} (hgd : o.guard = none) {N : Tmp} (_hd : o.dst = some N) {cs : Array Value} {t : TypeId}
   (hrun : (execOp a.eval o).run P W = .ok (.value (.pointer (some ⟨W.heap.size, 0, none⟩))) (W.alloc (.cells cs t (0, 0))))
   (h : ∀ g, g = W.heap.size → ∀ w1, w1.heap[g]? = some (.cells cs t (0, 0)) → Below W.heap.size W w1 → wpList P ops Q rest (a.put o.dst (.pointer (some ⟨g, 0, none⟩))) w1) : wpList P ops Q (o :: rest) a W :=
 Kd.event_run hgd hrun (h _ rfl _ (blk_new W _) (below_alloc (Below.refl _ _) _))
end
section
variable {P : Program} {ops : Array Oper} {rest : List Oper} {o : Oper} {a : Act} {Q : Exit → Act → World → Prop}
theorem store_event {W w1 : World} (hgd : o.guard = none) {t : TypeId} {p : Tmp} {v : Operand} (_ho : o.op = .store t (.tmp p) v) (hN : o.dst = none)
   (hrun : (execOp a.eval o).run P W = .ok .skip w1) (h : ∀ w', w' = w1 → wpList P ops Q rest a w') : wpList P ops Q (o :: rest) a W := by
 refine wpList_plain hgd fun K hK => ?_
 unfold Oper.wp
 rw [hrun]
 show K (a.put o.dst undef) w1
 rw [hN]
 exact hK _ _ (h _ rfl)
end
section
variable {P : Program} {ops : Array Oper} {rest : List Oper} {o : Oper} {a : Act} {Q : Exit → Act → World → Prop} {W : World}
theorem gate_dst {N : Tmp} (_hN : o.dst = some N) (h : wpList P ops Q (o :: rest) a W) : wpList P ops Q (o :: rest) a W := h
theorem gate_store {t : TypeId} {p : Tmp} {v : Operand} (_ho : o.op = .store t (.tmp p) v) (h : wpList P ops Q (o :: rest) a W) : wpList P ops Q (o :: rest) a W := h
end
end Go.Proofs.YtcoppnbjpncdcaaW.PrintWords
end
section
namespace Go.Proofs.YtcoppnbjpncdcaaW.PrintLast
section
variable {P : Program} {ops : Array Oper} {Q : Exit → Act → World → Prop} {md : Region.Mode} {S : World → Prop} {ds : List Nat}
def Region.reachB (md : Region.Mode) (ops : Array Oper) (i : Nat) : Nat → Nat → Bool
 | 0, _ => false
 | fuel + 1, d => match ops[d]? with
   | some o => o.after.any fun e => Region.binds md e && (e.on == i || Region.reachB md ops i fuel e.on)
   | none => false
def Region.closedB (md : Region.Mode) (ops : Array Oper) (listed : Array Bool) : Bool :=
 (List.range ops.size).all fun j => !listed.getD j false || match ops[j]? with
   | some o => o.after.all fun e => !Region.binds md e || listed.getD e.on false
   | none => true
def Region.lastB (md : Region.Mode) (ops : Array Oper) (listed : Array Bool) (ds : List Nat) (i : Nat) : Bool :=
 ds.all fun d => listed.getD d true || Region.reachB md ops i ops.size d
def ListedClosed (md : Region.Mode) (ops : Array Oper) (listed : Array Bool) : Prop :=
 ∀ j oj, ops[j]? = some oj → listed.getD j false = true → ∀ e ∈ oj.after, Region.binds md e = true → listed.getD e.on false = true
theorem Region.closedB_spec {listed : Array Bool} (h : Region.closedB md ops listed = true) : ListedClosed md ops listed := by
 intro j oj hj hl e he hb
 have hlt : j < ops.size := (Array.getElem?_eq_some_iff.1 hj).1
 have h1 := List.all_eq_true.1 h j (List.mem_range.2 hlt)
 simp only [hl, hj, Bool.not_true, Bool.false_or] at h1
 have h2 := Array.all_eq_true_iff_forall_mem.1 h1 e he
 simpa [hb] using h2
theorem ListedClosed.set {listed : Array Bool} {i : Nat} (h : ListedClosed md ops listed) (hi : i ∈ Region.ready md ops listed) : ListedClosed md ops (listed.setIfInBounds i true) := by
 obtain ⟨_, oi, hoi, hall⟩ := mem_ready.1 hi
 intro j oj hj hl e he hb
 by_cases hij : i = j
 · subst hij
   have : oj = oi := Option.some.inj (hj.symm.trans hoi)
   subst this
   exact getD_set_true (hall e he hb)
 · rw [getD_set_ne false hij] at hl
   exact getD_set_true (h j oj hj hl e he hb)
theorem Region.reach_listed {listed : Array Bool} {i : Nat} (hc : ListedClosed md ops listed) : ∀ (fuel d : Nat), Region.reachB md ops i fuel d = true → listed.getD d false = true → listed.getD i false = true
 | 0, _, h, _ => by simp [Region.reachB] at h
 | fuel + 1, d, h, hl => by
   unfold Region.reachB at h
   cases ho : ops[d]? with
   | none => rw [ho] at h; simp at h
   | some o =>
     rw [ho] at h
     obtain ⟨e, he, h1⟩ := Array.any_eq_true'.1 h
     simp only [Bool.and_eq_true, Bool.or_eq_true, beq_iff_eq] at h1
     have hle := hc d o ho hl e he h1.1
     rcases h1.2 with h2 | h2
     · rw [← h2]; exact hle
     · exact Region.reach_listed hc fuel e.on h2 hle
theorem Region.reach_not_ready {listed : Array Bool} {i d fuel : Nat} (hc : ListedClosed md ops listed) (hr : Region.reachB md ops i fuel d = true) (hun : listed.getD i true = false) : d ∉ Region.ready md ops listed := by
 intro hd
 obtain ⟨_, o, ho, hall⟩ := mem_ready.1 hd
 have hi : listed.getD i false = true := by
   cases fuel with
   | zero => simp [Region.reachB] at hr
   | succ n =>
     unfold Region.reachB at hr
     rw [ho] at hr
     obtain ⟨e, he, h1⟩ := Array.any_eq_true'.1 hr
     simp only [Bool.and_eq_true, Bool.or_eq_true, beq_iff_eq] at h1
     have hle := hall e he h1.1
     rcases h1.2 with h2 | h2
     · rw [← h2]; exact hle
     · exact Region.reach_listed hc n e.on h2 hle
 rcases Nat.lt_or_ge i listed.size with h' | h'
 · simp [h'] at hun hi
   rw [hun] at hi
   cases hi
 · simp [Array.getElem?_eq_none h'] at hun
def wpAnyLast (P : Program) (md : Region.Mode) (ops : Array Oper) (Q : Exit → Act → World → Prop) (S : World → Prop) (ds : List Nat) : Nat → Array Bool → Act → World → Prop
 | 0, listed, a, w => Region.ready md ops listed = [] ∧ Q .normal a w
 | fuel + 1, listed, a, w =>
   (Region.ready md ops listed = [] → Q .normal a w) ∧
   ∀ i ∈ Region.ready md ops listed, wpOp P ops Q i (fun a' w' => (i ∉ ds → S w → S w') ∧ wpAnyLast P md ops Q S ds fuel (listed.setIfInBounds i true) a' w') a w
theorem wpAny_of_last : ∀ (fuel : Nat) (listed : Array Bool) (a : Act) (w : World), wpAnyLast P md ops Q S ds fuel listed a w → wpAny P md ops Q fuel listed a w
 | 0, _, _, _, h => h
 | fuel + 1, _, _, _, h => ⟨h.1, fun i hi => wpOp_mono (fun a' w' h' => wpAny_of_last fuel _ a' w' h'.2) (h.2 i hi)⟩
theorem wpAnyLast_first {i : Nat} {oi : Oper} {v : Value} (hi : ops[i]? = some oi) (hsel : ∀ (j : Nat) (o : Oper) cs b, ops[j]? = some o → o.op ≠ .select cs b)
   (hQ : ∀ c a w, Q (.panic c) (a.put oi.dst v) w → Q (.panic c) a w) (n : Nat) :
   ∀ (fuel : Nat) (listed : Array Bool) (a : Act) (w : World),
     (∀ j oj, ops[j]? = some oj → j ≠ i → listed.getD j true = false → (∀ e ∈ oj.after, Region.binds md e = true → e.on ≠ i) → oi.apart ops oj = true) →
     ListedClosed md ops listed → (∀ d ∈ ds, listed.getD d true = false → Region.reachB md ops i n d = true) →
     i ∈ Region.ready md ops listed → YieldsIf P ops S oi v a → S w →
     wpAnyLast P md ops Q S ds fuel (listed.setIfInBounds i true) (a.put oi.dst v) w → wpAnyLast P md ops Q S ds (fuel + 1) listed a w := by
 intro fuel
 induction fuel with
 | zero =>
   intro listed a w _ _ _ hr hy hS H
   refine ⟨fun h => (by rw [h] at hr; cases hr), fun j hj => ?_⟩
   by_cases hji : j = i
   · subst hji; exact hy.wpOp hi hS ⟨fun _ h => h, H⟩
   · have := ready_mono hj hji
     rw [H.1] at this
     cases this
 | succ fuel ih =>
   intro listed a w hfree hc hd hr hy hS H
   refine ⟨fun h => (by rw [h] at hr; cases hr), fun j hj => ?_⟩
   by_cases hji : j = i
   · subst hji; exact hy.wpOp hi hS ⟨fun _ h => h, H⟩
   · have h1 := H.2 j (ready_mono hj hji)
     obtain ⟨hjun, oj, hoj, hall⟩ := mem_ready.1 hj
     have hiun := (mem_ready.1 hr).1
     have hnot : ∀ e ∈ oj.after, Region.binds md e = true → e.on ≠ i := fun e he hb heq => by
       have h1 := hall e he hb
       rw [heq] at h1
       rcases Nat.lt_or_ge i listed.size with h' | h'
       · simp [h'] at hiun h1; rw [hiun] at h1; cases h1
       · simp [Array.getElem?_eq_none h'] at h1
     have hjd : j ∉ ds := fun hm => Region.reach_not_ready hc (hd j hm hjun) hiun hj
     have h2 := wpOp_putIf hoj (hfree j oj hoj hji hjun hnot) (fun cs b => hsel i oi cs b hi) (fun cs b => hsel j oj cs b hoj) hQ hy h1
     have hfree' : ∀ k ok, ops[k]? = some ok → k ≠ i → (listed.setIfInBounds j true).getD k true = false →
         (∀ e ∈ ok.after, Region.binds md e = true → e.on ≠ i) → oi.apart ops ok = true := fun k ok hk hki hun hno => by
       refine hfree k ok hk hki ?_ hno
       by_cases hjk : j = k
       · subst hjk; exact hjun
       · rw [getD_set_ne true hjk] at hun; exact hun
     have hd' : ∀ d ∈ ds, (listed.setIfInBounds j true).getD d true = false → Region.reachB md ops i n d = true := fun d hm hun => by
       refine hd d hm ?_
       by_cases hjk : j = d
       · subst hjk; exact hjun
       · rw [getD_set_ne true hjk] at hun; exact hun
     refine wpOp_mono (fun a' w' h3 => ⟨h3.2.1, ih (listed.setIfInBounds j true) a' w' hfree' (hc.set hj) hd' (ready_mono hr (Ne.symm hji)) h3.1 (h3.2.1 hjd hS) ?_⟩) h2
     rw [Array.setIfInBounds_comm _ _ hji]
     exact h3.2.2
theorem wpAnyLast_any {i : Nat} {oi : Oper} {v : Value} (hi : ops[i]? = some oi) (hsel : ∀ (j : Nat) (o : Oper) cs b, ops[j]? = some o → o.op ≠ .select cs b)
   (hQ : ∀ c a w, Q (.panic c) (a.put oi.dst v) w → Q (.panic c) a w) :
   ∀ (fuel : Nat) (listed : Array Bool) (a : Act) (w : World),
     (∀ j oj, ops[j]? = some oj → j ≠ i → listed.getD j true = false → (∀ e ∈ oj.after, Region.binds md e = true → e.on ≠ i) → oi.apart ops oj = true) →
     i ∈ Region.ready md ops listed → Yields P ops oi v a →
     wpAnyLast P md ops Q S ds fuel (listed.setIfInBounds i true) (a.put oi.dst v) w → wpAnyLast P md ops Q S ds (fuel + 1) listed a w := by
 intro fuel
 induction fuel with
 | zero =>
   intro listed a w _ hr hy H
   refine ⟨fun h => (by rw [h] at hr; cases hr), fun j hj => ?_⟩
   by_cases hji : j = i
   · subst hji; exact (hy.yieldsIf (S := fun _ => True)).wpOp hi trivial ⟨fun _ h => h, H⟩
   · have := ready_mono hj hji
     rw [H.1] at this
     cases this
 | succ fuel ih =>
   intro listed a w hfree hr hy H
   refine ⟨fun h => (by rw [h] at hr; cases hr), fun j hj => ?_⟩
   by_cases hji : j = i
   · subst hji; exact (hy.yieldsIf (S := fun _ => True)).wpOp hi trivial ⟨fun _ h => h, H⟩
   · have h1 := H.2 j (ready_mono hj hji)
     obtain ⟨hjun, oj, hoj, hall⟩ := mem_ready.1 hj
     have hiun := (mem_ready.1 hr).1
     have hnot : ∀ e ∈ oj.after, Region.binds md e = true → e.on ≠ i := fun e he hb heq => by
       have h1 := hall e he hb
       rw [heq] at h1
       rcases Nat.lt_or_ge i listed.size with h' | h'
       · simp [h'] at hiun h1; rw [hiun] at h1; cases h1
       · simp [Array.getElem?_eq_none h'] at h1
     have h2 := wpOp_put hoj (hfree j oj hoj hji hjun hnot) (fun cs b => hsel i oi cs b hi) (fun cs b => hsel j oj cs b hoj) hQ hy h1
     have hfree' : ∀ k ok, ops[k]? = some ok → k ≠ i → (listed.setIfInBounds j true).getD k true = false →
         (∀ e ∈ ok.after, Region.binds md e = true → e.on ≠ i) → oi.apart ops ok = true := fun k ok hk hki hun hno => by
       refine hfree k ok hk hki ?_ hno
       by_cases hjk : j = k
       · subst hjk; exact hjun
       · rw [getD_set_ne true hjk] at hun; exact hun
     refine wpOp_mono (fun a' w' h3 => ⟨h3.2.1, ih (listed.setIfInBounds j true) a' w' hfree' (ready_mono hr (Ne.symm hji)) h3.1 ?_⟩) h2
     rw [Array.setIfInBounds_comm _ _ hji]
     exact h3.2.2
theorem wpAnyLast_take {i : Nat} {oi : Oper} {v : Value} {fuel : Nat} {listed : Array Bool} {a : Act} {w : World} (hi : ops[i]? = some oi)
   (hs : Region.noSelect ops = true) (hf : Region.free md ops listed i = true) (hr : (Region.ready md ops listed).contains i = true)
   (hc : Region.closedB md ops listed = true) (hl : Region.lastB md ops listed ds i = true)
   (hQ : ∀ c a w, Q (.panic c) (a.put oi.dst v) w → Q (.panic c) a w) (hy : YieldsIf P ops S oi v a) (hS : S w)
   (h : wpAnyLast P md ops Q S ds fuel (listed.setIfInBounds i true) (a.put oi.dst v) w) : wpAnyLast P md ops Q S ds (fuel + 1) listed a w :=
 wpAnyLast_first hi (Region.noSelect_spec hs) hQ ops.size fuel listed a w (Region.free_spec hi hf) (Region.closedB_spec hc)
   (fun d hm hun => by have := List.all_eq_true.1 hl d hm; rw [hun] at this; simpa using this) (by simpa using hr) hy hS h
theorem wpAnyLast_all {rs : List Nat} {fuel : Nat} {listed : Array Bool} {a : Act} {w : World} (hr : Region.ready md ops listed = rs) (hne : rs ≠ [])
   (h : ∀ i ∈ rs, wpOp P ops Q i (fun a' w' => (i ∉ ds → S w → S w') ∧ wpAnyLast P md ops Q S ds fuel (listed.setIfInBounds i true) a' w') a w) : wpAnyLast P md ops Q S ds (fuel + 1) listed a w :=
 ⟨fun h0 => absurd (hr ▸ h0) hne, hr ▸ h⟩
theorem wpAnyLast_done {listed : Array Bool} {a : Act} {w : World} (hr : Region.ready md ops listed = []) (h : Q .normal a w) :
   ∀ fuel, wpAnyLast P md ops Q S ds fuel listed a w
 | 0 => ⟨hr, h⟩
 | _ + 1 => ⟨fun _ => h, by rw [hr]; simp⟩
theorem wp_region_last {id : Nat} {a : Act} {w : World} (hm : P.follows .mixedOrders = true)
   (h : wpAnyLast P .any ops Q S ds ops.size (Array.replicate ops.size false) a { w with drawn := w.drawn + 1 }) : (Code.region id ops true).wp P Q a w :=
 wp_region_any hm (wpAny_of_last _ _ _ _ h)
end
section
variable {P : Program} {ops : Array Oper} {Q : Exit → Act → World → Prop} {md : Region.Mode} {S : World → Prop} {ds : List Nat}
def AllReadyL (P : Program) (md : Region.Mode) (ops : Array Oper) (Q : Exit → Act → World → Prop) (S : World → Prop) (ds : List Nat) (fuel : Nat) (listed : Array Bool) (a : Act) (w : World) (rs : List Nat) : Prop :=
 ∀ i ∈ rs, wpOp P ops Q i (fun a' w' => (i ∉ ds → S w → S w') ∧ wpAnyLast P md ops Q S ds fuel (listed.setIfInBounds i true) a' w') a w
theorem AllReadyL.nil {fuel : Nat} {listed : Array Bool} {a : Act} {w : World} : AllReadyL P md ops Q S ds fuel listed a w [] := fun _ h => by cases h
theorem AllReadyL.cons {fuel : Nat} {listed : Array Bool} {a : Act} {w : World} {i : Nat} {o : Oper} {rs : List Nat} (ho : ops[i]? = some o) (hd : i ∉ ds)
   (h : ∀ K' : Act → World → Prop, Shut (∀ a w, S w → (S w → wpAnyLast P md ops Q S ds fuel (listed.setIfInBounds i true) a w) → K' a w) → if Region.wanted o (yielded ops a.tmps) = true then Oper.wp P o a w K' Q else K' (a.put o.dst undef) w)
   (hs : AllReadyL P md ops Q S ds fuel listed a w rs) : AllReadyL P md ops Q S ds fuel listed a w (i :: rs) := fun j hj => by
 rcases List.mem_cons.1 hj with rfl | hj
 · exact wpOp_step ho (fun K' hK => h K' (fun a w hS hW => hK a w ⟨fun _ _ => hS, hW hS⟩))
 · exact hs j hj
theorem wpAnyLast_ready {rs : List Nat} {fuel : Nat} {listed : Array Bool} {a : Act} {w : World} (hr : Region.ready md ops listed = rs) (hne : rs ≠ [])
   (h : AllReadyL P md ops Q S ds fuel listed a w rs) : wpAnyLast P md ops Q S ds (fuel + 1) listed a w := wpAnyLast_all hr hne h
theorem start_ {id n : Nat} {a : Act} {w : World} (l : Array Bool) (hm : P.follows .mixedOrders = true) (hn : ops.size = n) (hl : Array.replicate n false = l) (hS : S w.drew)
   (h : S w.drew → wpAnyLast P .any ops Q S ds n l a w.drew) : (Code.region id ops true).wp P Q a w := by
 subst hn
 subst hl
 exact wp_region_last hm (h hS)
def takeB (md : Region.Mode) (ops : Array Oper) (ds : List Nat) (l l' : Array Bool) (i : Nat) : Bool :=
 Region.noSelect ops && Region.free md ops l i && (Region.ready md ops l).contains i && Region.closedB md ops l && Region.lastB md ops l ds i && (l.setIfInBounds i true == l')
theorem take_ {i : Nat} {N : Option Tmp} {oi : Oper} {v : Value} {fuel : Nat} {l : Array Bool} {a : Act} {w : World} (l' : Array Bool) (hi : ops[i]? = some oi) (hN : oi.dst = N) (hc : takeB md ops ds l l' i = true)
   (hQ : ∀ c a w, Q (.panic c) (a.put oi.dst v) w → Q (.panic c) a w) (hy : YieldsIf P ops S oi v a) (hS : S w) {a' : Act} (ha : a.put N v = a')
   (h : wpAnyLast P md ops Q S ds fuel l' a' w) : wpAnyLast P md ops Q S ds (fuel + 1) l a w := by
 subst ha
 subst hN
 simp only [takeB, Bool.and_eq_true, beq_iff_eq] at hc
 obtain ⟨⟨⟨⟨⟨h1, h2⟩, h3⟩, h4⟩, h5⟩, h6⟩ := hc
 subst h6
 exact wpAnyLast_take hi h1 h2 h3 h4 h5 hQ hy hS h
def anyB (md : Region.Mode) (ops : Array Oper) (l l' : Array Bool) (i : Nat) : Bool :=
 Region.noSelect ops && Region.free md ops l i && (Region.ready md ops l).contains i && (l.setIfInBounds i true == l')
theorem pure_ {i : Nat} {N : Option Tmp} {oi : Oper} {v : Value} {fuel : Nat} {l : Array Bool} {a : Act} {w : World} (l' : Array Bool) (hi : ops[i]? = some oi) (hN : oi.dst = N) (hc : anyB md ops l l' i = true)
   (hQ : ∀ c a w, Q (.panic c) (a.put oi.dst v) w → Q (.panic c) a w) (hy : Yields P ops oi v a) {a' : Act} (ha : a.put N v = a')
   (h : wpAnyLast P md ops Q S ds fuel l' a' w) : wpAnyLast P md ops Q S ds (fuel + 1) l a w := by
 subst ha
 subst hN
 simp only [anyB, Bool.and_eq_true, beq_iff_eq] at hc
 obtain ⟨⟨⟨h1, h2⟩, h3⟩, h6⟩ := hc
 subst h6
 exact wpAnyLast_any hi (Region.noSelect_spec h1) hQ fuel l a w (Region.free_spec hi h2) (by simpa using h3) hy h
def readyB (md : Region.Mode) (ops : Array Oper) (l l' : Array Bool) (i : Nat) : Bool := (Region.ready md ops l == [i]) && (l.setIfInBounds i true == l')
theorem one_ {i : Nat} {N : Option Tmp} {oi : Oper} {fuel : Nat} {l : Array Bool} {a : Act} {w : World} (l' : Array Bool) (hi : ops[i]? = some oi) (hN : oi.dst = N) (hc : readyB md ops l l' i = true) (hd : i ∉ ds)
   (h : ∀ K : Act → World → Prop, Shut (∀ a' w', S w' → (S w' → wpAnyLast P md ops Q S ds fuel l' a' w') → K a' w') → if Region.wanted oi (yielded ops a.tmps) = true then Oper.wp P oi a w K Q else K (a.put N undef) w) :
   wpAnyLast P md ops Q S ds (fuel + 1) l a w := by
 subst hN
 simp only [readyB, Bool.and_eq_true, beq_iff_eq] at hc
 obtain ⟨h1, h2⟩ := hc
 subst h2
 exact wpAnyLast_ready h1 (by simp) (AllReadyL.cons hi hd (fun K hK => h K hK) AllReadyL.nil)
theorem done_ {l : Array Bool} {a : Act} {w : World} {n : Nat} (hr : (Region.ready md ops l == []) = true) (h : Q .normal a w) : wpAnyLast P md ops Q S ds n l a w := wpAnyLast_done (by simpa using hr) h n
theorem norm_ {fuel : Nat} {l : Array Bool} {a a' : Act} {w : World} (ha : a = a') (h : wpAnyLast P md ops Q S ds fuel l a' w) : wpAnyLast P md ops Q S ds fuel l a w := by
 subst ha
 exact h
theorem call_ {oi : Oper} {N : Option Tmp} {a : Act} {w : World} {K : Act → World → Prop} (f : FuncId) (args : Array Value) (hw : Region.wanted oi (yielded ops a.tmps) = true) (hN : oi.dst = N) (hrun : (execOp a.eval oi).run P w = .ok (.enter f args) w)
   (h : Calls P f args w fun e w' => ∃ v, e = .returned v ∧ K (a.put N v) w') : if Region.wanted oi (yielded ops a.tmps) = true then Oper.wp P oi a w K Q else K (a.put N undef) w := by
 rw [if_pos hw]
 subst hN
 unfold Oper.wp
 rw [hrun, Oper.upon_enter]
 refine h.mono fun e w'' hh => ?_
 obtain ⟨v, rfl, hk⟩ := hh
 exact hk
theorem enters_ {f : FuncId} {fn : Func} (hf : P.funcs[f]? = some fn) (hname : (fn.name == "runtime.NumGoroutine") = false) (hb : fn.body.isSome = true) (args : Array Value) (w : World) : (callFunc f args).run P w = .ok (.enter f args) w := by
 have h1 : fn.name ≠ "runtime.NumGoroutine" := by simpa using hname
 obtain ⟨c, hc⟩ := Option.isSome_iff_exists.1 hb
 simp [callFunc, hf, h1, hc]
theorem goes_ {oi : Oper} {N : Option Tmp} {a : Act} {w : World} {K : Act → World → Prop} {f : FuncId} {fn : Func} {as1 : Array Operand} {ts : Array TypeId} (hf : P.funcs[f]? = some fn) (hname : (fn.name == "runtime.NumGoroutine") = false) (hb : fn.body.isSome = true) (args : Array Value)
   (hw : Region.wanted oi (yielded ops a.tmps) = true) (hN : oi.dst = N) (hop : oi.op = .call { callee := .value (.func f), args := as1, argTypes := ts }) (hargs : as1.map a.eval = args)
   (h : Calls P f args w fun e w' => ∃ v, e = .returned v ∧ K (a.put N v) w') : if Region.wanted oi (yielded ops a.tmps) = true then Oper.wp P oi a w K Q else K (a.put N undef) w := by
 refine call_ f args hw hN ?_ h
 have he := enters_ hf hname hb args w
 unfold execOp
 simp [hop, resolve, Deferred.ofValue, invoke, Act.eval, hargs, he]
theorem goesL_ {rest : List Oper} {oi : Oper} {a : Act} {w : World} (N : Option Tmp) (hd : oi.dst = N) (hg : oi.guard = none) {f : FuncId} {fn : Func} {as1 : Array Operand} {ts : Array TypeId} (hf : P.funcs[f]? = some fn) (hname : (fn.name == "runtime.NumGoroutine") = false) (hb : fn.body.isSome = true) (args : Array Value)
   (hop : oi.op = .call { callee := .value (.func f), args := as1, argTypes := ts }) (hargs : as1.map a.eval = args)
   (h : Calls P f args w fun e w' => ∃ v, e = .returned v ∧ wpList P ops Q rest (a.put N v) w') : wpList P ops Q (oi :: rest) a w := by
 refine wpList_plain hg fun K hK => ?_
 have he := enters_ hf hname hb args w
 have hrun : (execOp a.eval oi).run P w = .ok (.enter f args) w := by
   unfold execOp
   simp [hop, resolve, Deferred.ofValue, invoke, Act.eval, hargs, he]
 unfold Oper.wp
 rw [hrun, Oper.upon_enter]
 refine h.mono fun e w'' hh => ?_
 obtain ⟨v, rfl, hk⟩ := hh
 subst hd
 exact hK _ _ hk
theorem i64_w (n : Int) : IntKind.i64.wrap n = Go.RowKit.wrap64 n := by unfold Go.RowKit.wrap64; exact IntKind.wrap_i64 n
end
end Go.Proofs.YtcoppnbjpncdcaaW.PrintLast
end
section
namespace Go.Proofs.YtcoppnbjpncdcaaW.PrintLast
open Go.Proofs.YtcoppnbjpncdcaaW.PrintWords (Aside0)
def needsOf (md : Region.Mode) (o : Oper) : List Nat := (o.after.toList.filter (fun e => Region.binds md e)).map (fun e => e.on)
def clashOf (md : Region.Mode) (ops : Array Oper) (i : Nat) (oi : Oper) : List Nat := (List.range ops.size).filter fun j => !(j == i) && match ops[j]? with
 | some oj => !(oj.after.any (fun e => Region.binds md e && e.on == i) || oi.apart ops oj)
 | none => false
def rtab (md : Region.Mode) (ops : Array Oper) : Bool × List (List Nat × List Nat) := (Region.noSelect ops, (List.range ops.size).map fun i => match ops[i]? with
 | some o => (needsOf md o, clashOf md ops i o)
 | none => ([], []))
def readyAt (T : List (List Nat × List Nat)) (l : List Bool) (i : Nat) : Bool := !l.getD i true && match T[i]? with
 | some r => r.1.all (fun j => l.getD j false)
 | none => false
def readyT (T : List (List Nat × List Nat)) (l : List Bool) : List Nat := (List.range T.length).filter (readyAt T l)
def freeT (T : List (List Nat × List Nat)) (l : List Bool) (i : Nat) : Bool := match T[i]? with
 | some r => r.2.all (fun j => l.getD j true)
 | none => false
def closedT (T : List (List Nat × List Nat)) (l : List Bool) : Bool := (List.range T.length).all fun j => !l.getD j false || match T[j]? with
 | some r => r.1.all (fun k => l.getD k false)
 | none => true
def reachT (T : List (List Nat × List Nat)) (i : Nat) : Nat → Nat → Bool
 | 0, _ => false
 | fuel + 1, d => match T[d]? with
   | some r => r.1.any fun j => j == i || reachT T i fuel j
   | none => false
def lastT (T : List (List Nat × List Nat)) (l : List Bool) (ds : List Nat) (i : Nat) : Bool := ds.all fun d => l.getD d true || reachT T i T.length d
section
variable {md : Region.Mode} {ops : Array Oper} {T : Bool × List (List Nat × List Nat)} {l l' li lj lk : Array Bool} {ds : List Nat} {i j k : Nat}
theorem gd (l : Array Bool) (j : Nat) (b : Bool) : l.getD j b = l.toList.getD j b := by simp [Array.getD_eq_getD_getElem?, List.getD_eq_getElem?_getD]
theorem needs_all (o : Oper) (p : Nat → Bool) : o.after.all (fun e => !Region.binds md e || p e.on) = (needsOf md o).all p := by
 unfold needsOf
 rw [← Array.all_toList]
 induction o.after.toList with
 | nil => rfl
 | cons e r ih =>
   rw [List.all_cons, ih, List.filter_cons]
   cases h : Region.binds md e <;> simp
theorem needs_any (o : Oper) (p : Nat → Bool) : o.after.any (fun e => Region.binds md e && p e.on) = (needsOf md o).any p := by
 unfold needsOf
 rw [← Array.any_toList]
 induction o.after.toList with
 | nil => rfl
 | cons e r ih =>
   rw [List.any_cons, ih, List.filter_cons]
   cases h : Region.binds md e <;> simp
theorem rtab_length : (rtab md ops).2.length = ops.size := by simp [rtab]
theorem rtab_some {o : Oper} (h : ops[i]? = some o) : (rtab md ops).2[i]? = some (needsOf md o, clashOf md ops i o) := by
 have hi := (Array.getElem?_eq_some_iff.1 h).1
 unfold rtab
 rw [List.getElem?_map, List.getElem?_range hi, Option.map_some, h]
theorem rtab_none (h : ops[i]? = none) : (rtab md ops).2[i]? = none := by
 have hi : ops.size ≤ i := Array.getElem?_eq_none_iff.1 h
 exact List.getElem?_eq_none (by rw [rtab_length]; exact hi)
theorem readyAt_eq : readyAt (rtab md ops).2 l.toList i = (!l.getD i true && ((ops[i]?).map (·.after.all fun e => !Region.binds md e || l.getD e.on false)).getD false) := by
 unfold readyAt
 rw [gd]
 cases h : ops[i]? with
 | none => rw [rtab_none h]; rfl
 | some o =>
   rw [rtab_some h]
   simp only [Option.map_some, Option.getD_some]
   rw [← needs_all]
   simp only [gd]
theorem ready_eq : Region.ready md ops l = readyT (rtab md ops).2 l.toList := by
 unfold Region.ready readyT
 rw [rtab_length]
 refine List.filter_congr (fun i _ => ?_)
 rw [readyAt_eq]
theorem free_eq : Region.free md ops l i = freeT (rtab md ops).2 l.toList i := by
 unfold Region.free freeT
 cases h : ops[i]? with
 | none => rw [rtab_none h]
 | some oi =>
   rw [rtab_some h]
   simp only [clashOf]
   rw [List.all_filter]
   congr 1
   funext j
   rw [gd]
   cases hj : ops[j]? with
   | none => cases (j == i) <;> cases (l.toList.getD j true) <;> simp
   | some oj =>
     cases (j == i) <;> cases (l.toList.getD j true) <;> cases (oj.after.any (fun e => Region.binds md e && e.on == i) || oi.apart ops oj) <;> simp_all
theorem closed_eq : Region.closedB md ops l = closedT (rtab md ops).2 l.toList := by
 unfold Region.closedB closedT
 rw [rtab_length]
 congr 1
 funext j
 rw [gd]
 cases h : ops[j]? with
 | none => rw [rtab_none h]
 | some o =>
   rw [rtab_some h]
   simp only
   rw [← needs_all]
   simp only [gd]
theorem reach_eq : ∀ (fuel d : Nat), Region.reachB md ops i fuel d = reachT (rtab md ops).2 i fuel d
 | 0, _ => rfl
 | fuel + 1, d => by
   unfold Region.reachB reachT
   cases h : ops[d]? with
   | none => rw [rtab_none h]
   | some o =>
     rw [rtab_some h]
     simp only
     rw [← needs_any]
     congr 1
     funext e
     rw [reach_eq fuel]
theorem last_eq : Region.lastB md ops l ds i = lastT (rtab md ops).2 l.toList ds i := by
 unfold Region.lastB lastT
 rw [rtab_length]
 congr 1
 funext d
 rw [gd, reach_eq]
theorem readyAt_mem (h : readyAt T.2 l.toList i = true) (hT : rtab md ops = T) : (Region.ready md ops l).contains i = true := by
 subst hT
 rw [ready_eq]
 unfold readyT
 rw [List.contains_iff_mem, List.mem_filter, List.mem_range]
 refine ⟨?_, h⟩
 unfold readyAt at h
 rw [Bool.and_eq_true] at h
 cases hq : (rtab md ops).2[i]? with
 | none => rw [hq] at h; simp at h
 | some r => exact (List.getElem?_eq_some_iff.1 hq).1
theorem set_of (h : (l.toList.set i true == l'.toList) = true) : (l.setIfInBounds i true == l') = true := by
 rw [beq_iff_eq] at h ⊢
 apply Array.ext'
 rw [Array.toList_setIfInBounds]
 exact h
def anyT (T : Bool × List (List Nat × List Nat)) (l l' : List Bool) (i : Nat) : Bool := T.1 && freeT T.2 l i && readyAt T.2 l i && (l.set i true == l')
theorem any_of (hT : rtab md ops = T) (h : anyT T l.toList l'.toList i = true) : anyB md ops l l' i = true := by
 simp only [anyT, Bool.and_eq_true] at h
 obtain ⟨⟨⟨h1, h2⟩, h3⟩, h4⟩ := h
 have h5 := readyAt_mem h3 hT
 have h6 := set_of h4
 subst hT
 simp only [anyB, Bool.and_eq_true]
 exact ⟨⟨⟨h1, by rw [free_eq]; exact h2⟩, h5⟩, h6⟩
def takeT (T : Bool × List (List Nat × List Nat)) (ds : List Nat) (l l' : List Bool) (i : Nat) : Bool := T.1 && freeT T.2 l i && readyAt T.2 l i && closedT T.2 l && lastT T.2 l ds i && (l.set i true == l')
theorem take_of (hT : rtab md ops = T) (h : takeT T ds l.toList l'.toList i = true) : takeB md ops ds l l' i = true := by
 simp only [takeT, Bool.and_eq_true] at h
 obtain ⟨⟨⟨⟨⟨h1, h2⟩, h3⟩, h4⟩, h5⟩, h6⟩ := h
 have h7 := readyAt_mem h3 hT
 have h8 := set_of h6
 subst hT
 simp only [takeB, Bool.and_eq_true]
 exact ⟨⟨⟨⟨⟨h1, by rw [free_eq]; exact h2⟩, h7⟩, by rw [closed_eq]; exact h4⟩, by rw [last_eq]; exact h5⟩, h8⟩
theorem one_of (hT : rtab md ops = T) (h : (readyT T.2 l.toList == [i] && l.toList.set i true == l'.toList) = true) : readyB md ops l l' i = true := by
 simp only [Bool.and_eq_true] at h
 obtain ⟨h1, h2⟩ := h
 subst hT
 simp only [readyB, Bool.and_eq_true]
 exact ⟨by rw [ready_eq]; exact h1, set_of h2⟩
theorem done_of (hT : rtab md ops = T) (h : (readyT T.2 l.toList == []) = true) : (Region.ready md ops l == []) = true := by
 subst hT
 rw [ready_eq]
 exact h
def upM (B : List Nat) (d : Nat) : List Nat → Nat
 | [] => 0
 | n :: r => (2 ^ n ||| (if n < d then B.getD n 0 else 0)) ||| upM B d r
def waitsOk (T : List (List Nat × List Nat)) (B : List Nat) : Bool := (List.range T.length).all fun d => match T[d]? with
 | some r => (B.getD d 0 ||| upM B d r.1) == upM B d r.1
 | none => false
theorem upM_bit {B : List Nat} {d i : Nat} : ∀ {ns : List Nat}, (upM B d ns).testBit i = true → ∃ n ∈ ns, n = i ∨ (n < d ∧ (B.getD n 0).testBit i = true)
 | [], h => by simp [upM] at h
 | n :: r, h => by
   unfold upM at h
   rw [Nat.testBit_or, Nat.testBit_or, Bool.or_eq_true, Bool.or_eq_true] at h
   rcases h with (h | h) | h
   · rw [Nat.testBit_two_pow] at h
     exact ⟨n, List.mem_cons_self, .inl (by simpa using h)⟩
   · by_cases hn : n < d
     · rw [if_pos hn] at h
       exact ⟨n, List.mem_cons_self, .inr ⟨hn, h⟩⟩
     · rw [if_neg hn] at h
       simp at h
   · obtain ⟨m, hm, h2⟩ := upM_bit h
     exact ⟨m, List.mem_cons_of_mem _ hm, h2⟩
theorem reach_bit {T : List (List Nat × List Nat)} {B : List Nat} (hB : waitsOk T B = true) : ∀ (fuel d : Nat), d < fuel → d < T.length → (B.getD d 0).testBit i = true → reachT T i fuel d = true
 | 0, d, h, _, _ => by omega
 | fuel + 1, d, h, hd, hb => by
   have h1 := List.all_eq_true.1 hB d (List.mem_range.2 hd)
   cases hr : T[d]? with
   | none => rw [hr] at h1; simp at h1
   | some r =>
     rw [hr] at h1
     simp only [beq_iff_eq] at h1
     have h2 : (upM B d r.1).testBit i = true := by rw [← h1, Nat.testBit_or, hb, Bool.true_or]
     obtain ⟨n, hn, h3⟩ := upM_bit h2
     unfold reachT
     rw [hr]
     simp only
     rw [List.any_eq_true]
     refine ⟨n, hn, ?_⟩
     rcases h3 with rfl | ⟨h4, h5⟩
     · simp
     · rw [reach_bit hB fuel n (by omega) (by omega) h5, Bool.or_true]
def lastW (T : List (List Nat × List Nat)) (B : List Nat) (l : List Bool) (ds : List Nat) (i : Nat) : Bool := ds.all fun d => l.getD d true || (decide (d < T.length) && (B.getD d 0).testBit i)
def takeW (T : Bool × List (List Nat × List Nat)) (B : List Nat) (ds : List Nat) (l l' : List Bool) (i : Nat) : Bool := T.1 && freeT T.2 l i && readyAt T.2 l i && closedT T.2 l && lastW T.2 B l ds i && (l.set i true == l')
theorem take_ofW {B : List Nat} (hT : rtab md ops = T) (hB : waitsOk T.2 B = true) (h : takeW T B ds l.toList l'.toList i = true) : takeB md ops ds l l' i = true := by
 refine take_of hT ?_
 simp only [takeW, takeT, Bool.and_eq_true] at h ⊢
 obtain ⟨⟨⟨⟨⟨h1, h2⟩, h3⟩, h4⟩, h5⟩, h6⟩ := h
 refine ⟨⟨⟨⟨⟨h1, h2⟩, h3⟩, h4⟩, ?_⟩, h6⟩
 unfold lastW at h5
 unfold lastT
 rw [List.all_eq_true] at h5 ⊢
 intro d hd
 have h7 := h5 d hd
 rw [Bool.or_eq_true, Bool.and_eq_true, decide_eq_true_eq] at h7
 rcases h7 with h7 | ⟨h8, h9⟩
 · rw [h7, Bool.true_or]
 · rw [reach_bit hB _ d h8 h8 h9, Bool.or_true]
theorem with_tabW {P : Program} {Q : Exit → Act → World → Prop} {S : World → Prop} {n : Nat} {a : Act} {w : World} {B : List Nat} (hT : rtab md ops = T) (hB : waitsOk T.2 B = true) (h : Aside0 (rtab md ops = T) → Aside0 (waitsOk T.2 B = true) → wpAnyLast P md ops Q S ds n l a w) : wpAnyLast P md ops Q S ds n l a w := h ⟨hT⟩ ⟨hB⟩
end
def opsIn : Code → Nat → Option (Array Oper)
 | .region id ops _, k => if id == k then some ops else none
 | .seq a b, k => match opsIn a k with
   | some o => some o
   | none => opsIn b k
 | .cond _ a b, k => match opsIn a k with
   | some o => some o
   | none => opsIn b k
 | .block _ c, k => opsIn c k
 | .loop c, k => opsIn c k
 | .scope c, k => opsIn c k
 | .rangeFunc _ _ a b, k => match opsIn a k with
   | some o => some o
   | none => opsIn b k
 | _, _ => none
def opsOf (f : Func) (k : Nat) : Array Oper := ((f.body.bind fun c => opsIn c k)).getD #[]
end Go.Proofs.YtcoppnbjpncdcaaW.PrintLast
end
section
namespace Go.Proofs.YtcoppnbjpncdcaaW.PrintWords
open Go.RowKit
namespace Kd
def tag {α : Type} (f : Nat → Nat) (d : Kd α) : Kd (α × Nat) where
 sz := d.sz
 E := d.E
 K := fun w x cs => d.K w x.1 cs
 M := fun w base ok x cs => d.M w base (fun k => ok k ∧ f k = x.2) x.1 cs
 K_len := fun h => d.K_len h
 K_one := fun h => d.K_one h
 K_below := fun hb h => d.K_below hb h
 K_of_M := fun h => d.K_of_M h
 M_mono := fun hok h => d.M_mono (fun k hk => ⟨hok k hk.1, hk.2⟩) h
 M_bound := fun h => d.M_mono (fun _ hk => ⟨⟨hk.1.1, hk.2⟩, hk.1.2⟩) (d.M_bound h)
 M_move := fun hm h => d.M_move (fun k hk => hm k hk.1) h
 M_lower := fun hb h => d.M_lower hb h
def raw (sz : Nat) : Kd (List Value) where
 sz := sz
 E := []
 K := fun _ x cs => cs = x ∧ cs.length = sz ∧ ∀ u ∈ cs, u.oneCell' = true
 M := fun _ _ _ x cs => cs = x ∧ cs.length = sz ∧ ∀ u ∈ cs, u.oneCell' = true
 K_len := fun h => h.2.1
 K_one := fun h => h.2.2
 K_below := fun _ h => h
 K_of_M := fun h => h
 M_mono := fun _ h => h
 M_bound := fun h => h
 M_move := fun _ h => h
 M_lower := fun _ h => h
def S {α : Type} (d : Kd α) (e : Nat) (w : World) (base : Nat) (ok : Nat → Prop) (v : Value) (xs : List α) : Prop := ∃ f, (tag f d).R e w base ok v xs.zipIdx
def gap {α : Type} (f : Nat → Nat) (d : Kd α) (i : Nat) (c : List Value) : Kd (α × Nat) where
 sz := d.sz
 E := d.E
 K := fun w x cs => (x.2 = i → cs = c ∧ cs.length = d.sz ∧ ∀ u ∈ cs, u.oneCell' = true) ∧ (x.2 ≠ i → d.K w x.1 cs)
 M := fun w base ok x cs => (x.2 = i → cs = c ∧ cs.length = d.sz ∧ ∀ u ∈ cs, u.oneCell' = true) ∧ (x.2 ≠ i → d.M w base (fun k => ok k ∧ f k = x.2) x.1 cs)
 K_len := fun {w x cs} h => by
   by_cases hx : x.2 = i
   · exact (h.1 hx).2.1
   · exact d.K_len (h.2 hx)
 K_one := fun {w x cs} h => by
   by_cases hx : x.2 = i
   · exact (h.1 hx).2.2
   · exact d.K_one (h.2 hx)
 K_below := fun hb h => ⟨h.1, fun hx => d.K_below hb (h.2 hx)⟩
 K_of_M := fun h => ⟨h.1, fun hx => d.K_of_M (h.2 hx)⟩
 M_mono := fun hok h => ⟨h.1, fun hx => d.M_mono (fun k hk => ⟨hok k hk.1, hk.2⟩) (h.2 hx)⟩
 M_bound := fun h => ⟨h.1, fun hx => d.M_mono (fun _ hk => ⟨⟨hk.1.1, hk.2⟩, hk.1.2⟩) (d.M_bound (h.2 hx))⟩
 M_move := fun hm h => ⟨h.1, fun hx => d.M_move (fun k hk => hm k hk.1) (h.2 hx)⟩
 M_lower := fun hb h => ⟨h.1, fun hx => d.M_lower hb (h.2 hx)⟩
def H {α : Type} (d : Kd α) (e : Nat) (w : World) (base : Nat) (ok : Nat → Prop) (v : Value) (xs : List α) (i : Int) (oki : Nat → Prop) (c : List Value) : Prop :=
 (∀ k, oki k → ok k) ∧ ∃ f, (gap f d i.toNat c).R e w base (fun k => ok k ∧ ¬ oki k) v xs.zipIdx
end Kd
end Go.Proofs.YtcoppnbjpncdcaaW.PrintWords
end
section
namespace Go.Proofs.YtcoppnbjpncdcaaW.PrintWords
open Go.RowKit
def Kept (w W : World) (S : Nat → Prop) : Prop := w.heap.size ≤ W.heap.size ∧ ∀ i, i < w.heap.size → ¬ S i → W.heap[i]? = w.heap[i]?
section
variable {w W W2 : World} {S S2 S' : Nat → Prop}
theorem Kept.refl (w : World) (S : Nat → Prop) : Kept w w S := ⟨Nat.le_refl _, fun _ _ _ => rfl⟩
end
end Go.Proofs.YtcoppnbjpncdcaaW.PrintWords
end
section
namespace Go.Proofs.YtcoppnbjpncdcaaW.PrintWords
open Go.RowKit
def Foot (P : World → Prop) (W : World) (ok : Nat → Prop) : Prop := ∀ W' : World, (∀ k, ok k → k < W.heap.size → W'.heap[k]? = W.heap[k]?) → P W'
theorem heap_lt {W W1 : World} {k : Nat} (h : W1.heap[k]? = W.heap[k]?) (hlt : k < W.heap.size) : k < W1.heap.size := by
 rw [Array.getElem?_eq_getElem hlt] at h
 exact (Array.getElem?_eq_some_iff.1 h).1
namespace Foot
variable {P Q : World → Prop} {W W1 : World} {ok ok' : Nat → Prop}
theorem now (h : Foot P W ok) : P W := h W (fun _ _ _ => rfl)
theorem mono (h : Foot P W ok) (hok : ∀ k, ok k → ok' k) : Foot P W ok' := fun W' hW => h W' (fun k hk hlt => hW k (hok k hk) hlt)
theorem bound (h : Foot P W ok) : Foot P W (fun k => ok k ∧ k < W.heap.size) := fun W' hW => h W' (fun k hk hlt => hW k ⟨hk, hlt⟩ hlt)
theorem step (h : Foot P W ok) (hm : ∀ k, ok k → k < W.heap.size → W1.heap[k]? = W.heap[k]?) : Foot P W1 ok := fun W' hW => h W' (fun k hk hlt => (hW k hk (heap_lt (hm k hk hlt) hlt)).trans (hm k hk hlt))
theorem old (h : Foot P W ok) (hb : Below W.heap.size W W1) : Foot P W1 (fun k => ok k ∧ k < W.heap.size) := (h.bound).step (fun k _ hlt => hb.block k hlt)
end Foot
namespace Kd
def F {α : Type} (d : Kd α) (W : World) (ok : Nat → Prop) (A : Option Addr) (n : Nat) (xs : List α) : Prop := Foot (fun W => d.C W A n xs) W ok
def FK {α : Type} (d : Kd α) (W : World) (ok : Nat → Prop) (x : α) (c : List Value) : Prop := Foot (fun W => d.K W x c) W ok
end Kd
end Go.Proofs.YtcoppnbjpncdcaaW.PrintWords
end
section
namespace Go.Proofs.YtcoppnbjpncdcaaW.PrintWords
open Go.RowKit
namespace Kd
section
variable {α : Type} {d : Kd α} {e base n cc g : Nat} {ok ok' okp S : Nat → Prop} {w w1 W W1 : World} {A : Option Addr} {u v v1 : Value} {xs : List α} {x : α} {c : List Value}
def N {α : Type} (d : Kd α) (e : Nat) (w : World) (base : Nat) (ok : Nat → Prop) (v : Value) (xs : List α) : Prop :=
 (∀ k, v.ownBlock = some k → ok k) ∧ ∃ rows : List (List Value), rows.length = xs.length ∧ (raw d.sz).R e w base (fun k => some k = v.ownBlock) v rows ∧ ∀ (j : Nat) (x : α) (c : List Value), xs[j]? = some x → rows[j]? = some c → FK d w (fun k => ok k ∧ some k ≠ v.ownBlock) x c
end
end Kd
end Go.Proofs.YtcoppnbjpncdcaaW.PrintWords
end
section
namespace Go.Proofs.YtcoppnbjpncdcaaW.PrintWords
theorem Reps.front {α : Type} {R : α → List Value → Prop} {size : Nat} {ps : List α} {cs c all : List Value} {p : α} (hp : R p c) (hc : c.length = size) (h : Reps R size ps cs) (ha : c ++ cs = all) : Reps R size (p :: ps) all := by
 subst ha
 refine ⟨by rw [List.length_append, hc, h.1, List.length_cons, Nat.succ_mul, Nat.add_comm], fun j q hq => ?_⟩
 cases j with
 | zero =>
   simp only [List.getElem?_cons_zero, Option.some.injEq] at hq
   subst hq
   rw [Nat.zero_mul, List.drop_zero, List.take_append_of_le_length (by omega), List.take_of_length_le (by omega)]
   exact hp
 | succ j =>
   simp only [List.getElem?_cons_succ] at hq
   have h1 := h.2 j q hq
   rw [Nat.succ_mul, List.drop_append, List.drop_of_length_le (by rw [hc]; exact Nat.le_add_left _ _), List.nil_append, hc, Nat.add_sub_cancel]
   exact h1
theorem Reps.c2 {α : Type} {R : α → List Value → Prop} {ps : List α} {cs : List Value} {p : α} {va vb : Value} (hp : R p [va, vb]) (h : Reps R 2 ps cs) : Reps R 2 (p :: ps) (va :: vb :: cs) := Reps.front hp rfl h rfl
end Go.Proofs.YtcoppnbjpncdcaaW.PrintWords
end
section
namespace Go.Proofs.YtcoppnbjpncdcaaW.PrintWords
open Go.RowKit
section
variable {P : Program} {ops : Array Oper} {rest : List Oper} {o : Oper} {a : Act} {Q : Exit → Act → World → Prop} {W : World}
theorem gate_callee {f : FuncId} {as1 : Array Operand} {ts : Array TypeId} (_ho : o.op = .call { callee := .value (.func f), args := as1, argTypes := ts }) (h : wpList P ops Q (o :: rest) a W) : wpList P ops Q (o :: rest) a W := h
theorem gate_builtin {b : Builtin} {xs : Array Operand} {ts : Array TypeId} (_ho : o.op = .call { callee := .builtin b, args := xs, argTypes := ts }) (h : wpList P ops Q (o :: rest) a W) : wpList P ops Q (o :: rest) a W := h
end
def mx (a b : Int) : Int := if a < b then b else a
theorem drewN_self (w : World) (n : Nat) : w.drewN n = w.drewN n := rfl
end Go.Proofs.YtcoppnbjpncdcaaW.PrintWords
namespace Go.Proofs.YtcoppnbjpncdcaaW.PrintWords
open Go.RowKit
namespace Kd
def V {α : Type} (d : Kd α) (_e : Nat) (W : World) (_base : Nat) (ok : Nat → Prop) (v : Value) (xs : List α) : Prop := ∃ A c, v = .slice A xs.length c ∧ xs.length ≤ c ∧ F d W ok A xs.length xs
end Kd
end Go.Proofs.YtcoppnbjpncdcaaW.PrintWords
end
section
namespace Go.Proofs.YtcoppnbjpncdcaaW.PrintWords
end Go.Proofs.YtcoppnbjpncdcaaW.PrintWords
namespace Go.Proofs.YtcoppnbjpncdcaaW.PrintLast
end Go.Proofs.YtcoppnbjpncdcaaW.PrintLast
namespace Go.Proofs.YtcoppnbjpncdcaaW.PrintMore
end Go.Proofs.YtcoppnbjpncdcaaW.PrintMore
namespace Go.Proofs.Ytcoppnbjpncdcaa.PAll
open Go.RowKit Go.Proofs.YtcoppnbjpncdcaaW.PrintWords Go.Proofs.YtcoppnbjpncdcaaW.PrintLast Go.Proofs.YtcoppnbjpncdcaaW.PrintMore
set_option linter.unusedVariables false
set_option linter.unusedSimpArgs false
theorem info30 : (Tp.prog.info? 30).map (fun i => (i.zero, i.size, i.bytes)) = some (some (.agg #[(.int .i64 0), (.int .i64 0)]), 2, 16) := by kernel_rfl
structure S24 where
 f0 : Int
 f1 : Int
def z24 : S24 := ⟨(0 : Int), (0 : Int)⟩
def k24 : Kd S24 := Kd.iso (Kd.pair (Kd.int .i64) (Kd.int .i64)) (fun x : S24 => (x.f0, x.f1))
theorem k24_open {w : World} {x : S24} {cs : List Value} (h : k24.K w x cs) : cs = [.int .i64 x.f0, .int .i64 x.f1] := by
 obtain ⟨_, _, rfl, rfl, rfl⟩ := h
 exact rfl
theorem k24_mk (w : World) (x : S24)  : k24.K w x [.int .i64 x.f0, .int .i64 x.f1] := ⟨[.int .i64 x.f0], [.int .i64 x.f1], rfl, rfl, rfl⟩
def rd_T24 (xs : List S24) (i : Int) : S24 := xs.getD i.toNat z24
theorem at_T24 {w : World} {A : Option Addr} {n : Nat} {xs : List S24} (h : Kd.C k24 w A n xs) (i : Int) (h0 : 0 ≤ i) (h1 : i < n) : ∃ ad , A = some ad ∧ w.cell? (ad.add (i.toNat * 2)) = some (.int .i64 (rd_T24 xs i).f0) ∧ w.cell? ⟨(ad.add (i.toNat * 2)).block, (ad.add (i.toNat * 2)).off + 1, none⟩ = some (.int .i64 (rd_T24 xs i).f1) := by
 obtain ⟨ad, c, e, _, hK, hc0⟩ := Kd.C_get h z24 i h0 h1
 have hc : ∀ j u, c[j]? = some u → w.cell? (ad.add (i.toNat * 2 + j)) = some u := hc0
 obtain rfl := k24_open hK
 exact ⟨ad, e, hc 0 _ rfl, by rw [← add_field _ _ 1 (by omega)]; exact hc 1 _ rfl⟩
structure S30 where
 f0 : Int
 f1 : Int
def z30 : S30 := ⟨(0 : Int), (0 : Int)⟩
def k30 : Kd S30 := Kd.iso (Kd.pair (Kd.int .i64) (Kd.int .i64)) (fun x : S30 => (x.f0, x.f1))
theorem k30_open {w : World} {x : S30} {cs : List Value} (h : k30.K w x cs) : cs = [.int .i64 x.f0, .int .i64 x.f1] := by
 obtain ⟨_, _, rfl, rfl, rfl⟩ := h
 exact rfl
theorem k30_openM {w : World} {base : Nat} {ok : Nat → Prop} {x : S30} {cs : List Value} (h : k30.M w base ok x cs) : cs = [.int .i64 x.f0, .int .i64 x.f1] := by
 obtain ⟨_, _, rfl, rfl, rfl⟩ := h
 exact rfl
theorem k30_mkM (w : World) (base : Nat) (ok : Nat → Prop) (x : S30)  : k30.M w base ok x [.int .i64 x.f0, .int .i64 x.f1] := ⟨[.int .i64 x.f0], [.int .i64 x.f1], rfl, rfl, rfl⟩
def rd_T30 (xs : List S30) (i : Int) : S30 := xs.getD i.toNat z30
theorem at_T30 {w : World} {A : Option Addr} {n : Nat} {xs : List S30} (h : Kd.C k30 w A n xs) (i : Int) (h0 : 0 ≤ i) (h1 : i < n) : ∃ ad , A = some ad ∧ w.cell? (ad.add (i.toNat * 2)) = some (.int .i64 (rd_T30 xs i).f0) ∧ w.cell? ⟨(ad.add (i.toNat * 2)).block, (ad.add (i.toNat * 2)).off + 1, none⟩ = some (.int .i64 (rd_T30 xs i).f1) := by
 obtain ⟨ad, c, e, _, hK, hc0⟩ := Kd.C_get h z30 i h0 h1
 have hc : ∀ j u, c[j]? = some u → w.cell? (ad.add (i.toNat * 2 + j)) = some u := hc0
 obtain rfl := k30_open hK
 exact ⟨ad, e, hc 0 _ rfl, by rw [← add_field _ _ 1 (by omega)]; exact hc 1 _ rfl⟩
theorem zs : (∀ (l : List Value) (i : Nat) (a : Value), l.toArray.setIfInBounds i a = (l.set i a).toArray) ∧ (∀ (a b : Value) (l : List Value), (a :: l).set 0 b = b :: l) ∧ ∀ (a b : Value) (l : List Value) (n : Nat), (a :: l).set (n + 1) b = a :: l.set n b := ⟨fun _ _ _ => by simp, fun _ _ _ => rfl, fun _ _ _ _ => rfl⟩
end Go.Proofs.Ytcoppnbjpncdcaa.PAll
end
section
namespace Go.Proofs.Ytcoppnbjpncdcaa.PAll
open Go.RowKit Go.Proofs.YtcoppnbjpncdcaaW.PrintWords Go.Proofs.YtcoppnbjpncdcaaW.PrintLast Go.Proofs.YtcoppnbjpncdcaaW.PrintMore
set_option linter.unusedVariables false
set_option linter.unusedSimpArgs false
def laws_szRangeS.f (l0 : List (S24)) (a1 : Int) : Option (Int) := if (wrap64 (a1 - (l0.length : Int))) < 0 then (some (-1)) else (some (wrap64 (a1 - (l0.length : Int))))
set_option maxHeartbeats 8000000 in
set_option maxRecDepth 100000 in
theorem laws_szRangeS.calls (A0 : Option Addr) (c0 : Nat) (l0 : List (S24)) (a1 : Int) (r : Int) (w : World) (hr0 : Kd.C k24 w A0 l0.length l0) (hc0 : l0.length ≤ c0) (h : laws_szRangeS.f l0 a1 = some r) :
   Calls Tp.prog 14 #[.slice A0 l0.length c0, .int .i64 a1] w fun e w' => e = .returned (.int .i64 r) ∧ Drawn0 w w' := by
 have HR0 := Aside0.mk hr0
 have HC0 := Aside0.mk hc0
 clear hr0 hc0
 have H : (if (wrap64 (a1 - (l0.length : Int))) < 0 then (some (-1)) else (some (wrap64 (a1 - (l0.length : Int))))) = some r := h
 clear h
 by_cases c3 : (wrap64 (a1 - (l0.length : Int))) < 0
 · rw [if_pos c3] at H
   have c3b0 : decide ((wrap64 (a1 - (l0.length : Int))) < 0) = true := decide_eq_true c3
   clear c3
   obtain rfl := Option.some.inj H
   go_enter Tp.func14, Try.ntmps14
   go_wp2
   go_ret
   exact ⟨by (rfl), by repeat ((exact Drawn0.refl _))⟩
 · rw [if_neg c3] at H
   have c3b0 : decide ((wrap64 (a1 - (l0.length : Int))) < 0) = false := decide_eq_false c3
   clear c3
   obtain rfl := Option.some.inj H
   go_enter Tp.func14, Try.ntmps14
   go_wp2
   go_ret
   exact ⟨by (rfl), by repeat ((exact Drawn0.refl _))⟩
def spec_l6In.f (a0 : Int) (a1 : Int) (a2 : Int) : Option (Bool) := if a0 ≥ a1 then (some (decide (a0 ≤ a2))) else (some false)
set_option maxHeartbeats 8000000 in
set_option maxRecDepth 100000 in
theorem spec_l6In.calls (a0 : Int) (a1 : Int) (a2 : Int) (r : Bool) (w : World) (h : spec_l6In.f a0 a1 a2 = some r) :
   Calls Tp.prog 101 #[.int .i64 a0, .int .i64 a1, .int .i64 a2] w fun e w' => e = .returned (.bool r) ∧ Drawn0 w w' := by
 have H : (if a0 ≥ a1 then (some (decide (a0 ≤ a2))) else (some false)) = some r := h
 clear h
 by_cases c4 : a0 ≥ a1
 · rw [if_pos c4] at H
   have c4b0 : decide (a1 ≤ a0) = true := decide_eq_true c4
   clear c4
   obtain rfl := Option.some.inj H
   go_enter Tp.func101, Try.ntmps101
   go_wp2
   go_ret
   exact ⟨by (rfl), by repeat ((exact Drawn0.refl _))⟩
 · rw [if_neg c4] at H
   have c4b0 : decide (a1 ≤ a0) = false := decide_eq_false c4
   clear c4
   obtain rfl := Option.some.inj H
   go_enter Tp.func101, Try.ntmps101
   go_wp2
   go_ret
   exact ⟨by (rfl), by repeat ((exact Drawn0.refl _))⟩
def spec_l12Ok.f (a0 : Int) : Option (Bool) := (spec_l6In.f a0 (-86400000) 315537984000000).bind fun t101 => (some t101)
set_option maxHeartbeats 8000000 in
set_option maxRecDepth 100000 in
theorem spec_l12Ok.calls (a0 : Int) (r : Bool) (w : World) (h : spec_l12Ok.f a0 = some r) :
   Calls Tp.prog 88 #[.int .i64 a0] w fun e w' => e = .returned (.bool r) ∧ Drawn0 w w' := by
 have H : ((spec_l6In.f a0 (-86400000) 315537984000000).bind fun t101 => (some t101)) = some r := h
 clear h
 replace H := Option.bind_eq_some_iff.mp H
 obtain ⟨t101, A20, H⟩ := H
 replace H : (some t101) = some r := H
 have A2 := Aside0.mk A20
 clear A20
 obtain rfl := Option.some.inj H
 go_enter Tp.func88, Try.ntmps88
 go_wp2_with ((((with_reducible refine gate_callee (f := 101) rfl ?_); refine goesL_ (some 4) rfl rfl Tp.func101 (by kernel_rfl) rfl #[.int .i64 a0, .int .i64 (-86400000), .int .i64 315537984000000] rfl (by (try simp only [List.map_toArray, List.map_cons, List.map_nil]); (rfl)) ?_; (with_reducible refine (spec_l6In.calls a0 (-86400000) 315537984000000 t101 _ A2.out).mono ?_); rintro e w' ⟨rfl, ⟨nd, rfl⟩⟩; refine ⟨_, rfl, ?_⟩)))
 go_ret
 exact ⟨by (rfl), by repeat (first | exact Drawn0.refl _ | apply Drawn0.step)⟩
def spec_l32Range.f (a0_0 : Int) (a0_1 : Int) : Option (Bool) := (spec_l12Ok.f a0_0).bind fun t103 => (if t103 = true then ((spec_l12Ok.f a0_1).bind fun t104 => (if t104 = true then (some (decide (a0_0 < a0_1))) else (some false))) else (some false))
set_option maxHeartbeats 8000000 in
set_option maxRecDepth 100000 in
theorem spec_l32Range.calls (a0_0 : Int) (a0_1 : Int) (r : Bool) (w : World) (h : spec_l32Range.f a0_0 a0_1 = some r) :
   Calls Tp.prog 57 #[.agg #[.int .i64 a0_0, .int .i64 a0_1]] w fun e w' => e = .returned (.bool r) ∧ Below w.heap.size w w' := by
 have hu30 := Tp.underlying30
 have HB := Aside0.mk (Below.refl w.heap.size w)
 have H : ((spec_l12Ok.f a0_0).bind fun t103 => (if t103 = true then ((spec_l12Ok.f a0_1).bind fun t104 => (if t104 = true then (some (decide (a0_0 < a0_1))) else (some false))) else (some false))) = some r := h
 clear h
 replace H := Option.bind_eq_some_iff.mp H
 obtain ⟨t103, A20, H⟩ := H
 replace H : (if t103 = true then ((spec_l12Ok.f a0_1).bind fun t104 => (if t104 = true then (some (decide (a0_0 < a0_1))) else (some false))) else (some false)) = some r := H
 have A2 := Aside0.mk A20
 clear A20
 by_cases c3 : t103 = true
 · subst c3
   have H1 : ((spec_l12Ok.f a0_1).bind fun t104 => (if t104 = true then (some (decide (a0_0 < a0_1))) else (some false))) = some r := by rw [if_pos rfl] at H; exact H
   clear H
   have H := H1
   clear H1
   replace H := Option.bind_eq_some_iff.mp H
   obtain ⟨t104, A40, H⟩ := H
   replace H : (if t104 = true then (some (decide (a0_0 < a0_1))) else (some false)) = some r := H
   have A4 := Aside0.mk A40
   clear A40
   by_cases c5 : t104 = true
   · subst c5
     have H1 : (some (decide (a0_0 < a0_1))) = some r := by rw [if_pos rfl] at H; exact H
     clear H
     have H := H1
     clear H1
     obtain rfl := Option.some.inj H
     go_enter Tp.func57, Try.ntmps57
     go_wp2_with (first | ((with_reducible refine gate_dst (N := 1) rfl ?_); refine box_event ?hg (N := 1) ?hd (cs := #[.int .i64 a0_0, .int .i64 a0_1]) (t := 30) ?hr ?_; (case hd => rfl); (case hg => rfl); (case hr => (go_simp; done)); intro gb102 hg w6 hbox hb; have n0_ := Aside0.mk (below_step HB.out hb); have n1_ := Aside0.mk (hbox); have n2_ := Aside0.mk ((by rw [hg]; exact (below_size HB.out) : w.heap.size ≤ gb102)); have n3_ := Aside0.mk ((by rw [hg]; exact (below_size HB.out) : w.heap.size ≤ gb102)); clear HB; have HB := n0_; have BK102 := n1_; have GW102 := n2_; have GE102 := n3_; clear n0_ n1_ n2_ n3_; clear hb hbox hg; have hcz7_0 : w6.cell? ⟨gb102, 0, none⟩ = some (.int .i64 a0_0) := (blk_cell BK102.out 0).trans rfl; have hcz7_1 : w6.cell? ⟨gb102, 1, none⟩ = some (.int .i64 a0_1) := (blk_cell BK102.out 1).trans rfl; have hfz7_0 := blk_frozen BK102.out 0; have hfz7_1 := blk_frozen BK102.out 1) | ((with_reducible refine gate_callee (f := 88) rfl ?_); refine goesL_ (some 5) rfl rfl Tp.func88 (by kernel_rfl) rfl #[.int .i64 a0_0] rfl (by (try simp only [List.map_toArray, List.map_cons, List.map_nil]); (rfl)) ?_; (with_reducible refine (spec_l12Ok.calls a0_0 true _ A2.out).mono ?_); rintro e w' ⟨rfl, ⟨nd, rfl⟩⟩; refine ⟨_, rfl, ?_⟩) | (go_at_call 88; (with_reducible refine (spec_l12Ok.calls a0_1 true _ A4.out).mono ?_); rintro e w' ⟨rfl, ⟨nd, rfl⟩⟩))
     go_ret
     exact ⟨by (rfl), by repeat (((with_reducible first | exact HB.out | apply pw_below_drewN)))⟩
   · replace c5 := Bool.eq_false_iff.mpr c5
     subst c5
     have H1 : (some false) = some r := by rw [if_neg (show ¬ (false = true) by decide)] at H; exact H
     clear H
     have H := H1
     clear H1
     obtain rfl := Option.some.inj H
     go_enter Tp.func57, Try.ntmps57
     go_wp2_with (first | ((with_reducible refine gate_dst (N := 1) rfl ?_); refine box_event ?hg (N := 1) ?hd (cs := #[.int .i64 a0_0, .int .i64 a0_1]) (t := 30) ?hr ?_; (case hd => rfl); (case hg => rfl); (case hr => (go_simp; done)); intro gb102 hg w8 hbox hb; have n0_ := Aside0.mk (below_step HB.out hb); have n1_ := Aside0.mk (hbox); have n2_ := Aside0.mk ((by rw [hg]; exact (below_size HB.out) : w.heap.size ≤ gb102)); have n3_ := Aside0.mk ((by rw [hg]; exact (below_size HB.out) : w.heap.size ≤ gb102)); clear HB; have HB := n0_; have BK102 := n1_; have GW102 := n2_; have GE102 := n3_; clear n0_ n1_ n2_ n3_; clear hb hbox hg; have hcz9_0 : w8.cell? ⟨gb102, 0, none⟩ = some (.int .i64 a0_0) := (blk_cell BK102.out 0).trans rfl; have hcz9_1 : w8.cell? ⟨gb102, 1, none⟩ = some (.int .i64 a0_1) := (blk_cell BK102.out 1).trans rfl; have hfz9_0 := blk_frozen BK102.out 0; have hfz9_1 := blk_frozen BK102.out 1) | ((with_reducible refine gate_callee (f := 88) rfl ?_); refine goesL_ (some 5) rfl rfl Tp.func88 (by kernel_rfl) rfl #[.int .i64 a0_0] rfl (by (try simp only [List.map_toArray, List.map_cons, List.map_nil]); (rfl)) ?_; (with_reducible refine (spec_l12Ok.calls a0_0 true _ A2.out).mono ?_); rintro e w' ⟨rfl, ⟨nd, rfl⟩⟩; refine ⟨_, rfl, ?_⟩) | (go_at_call 88; (with_reducible refine (spec_l12Ok.calls a0_1 false _ A4.out).mono ?_); rintro e w' ⟨rfl, ⟨nd, rfl⟩⟩))
     go_ret
     exact ⟨by (rfl), by repeat (((with_reducible first | exact HB.out | apply pw_below_drewN)))⟩
 · replace c3 := Bool.eq_false_iff.mpr c3
   subst c3
   have H1 : (some false) = some r := by rw [if_neg (show ¬ (false = true) by decide)] at H; exact H
   clear H
   have H := H1
   clear H1
   obtain rfl := Option.some.inj H
   go_enter Tp.func57, Try.ntmps57
   go_wp2_with (first | ((with_reducible refine gate_dst (N := 1) rfl ?_); refine box_event ?hg (N := 1) ?hd (cs := #[.int .i64 a0_0, .int .i64 a0_1]) (t := 30) ?hr ?_; (case hd => rfl); (case hg => rfl); (case hr => (go_simp; done)); intro gb102 hg w10 hbox hb; have n0_ := Aside0.mk (below_step HB.out hb); have n1_ := Aside0.mk (hbox); have n2_ := Aside0.mk ((by rw [hg]; exact (below_size HB.out) : w.heap.size ≤ gb102)); have n3_ := Aside0.mk ((by rw [hg]; exact (below_size HB.out) : w.heap.size ≤ gb102)); clear HB; have HB := n0_; have BK102 := n1_; have GW102 := n2_; have GE102 := n3_; clear n0_ n1_ n2_ n3_; clear hb hbox hg; have hcz11_0 : w10.cell? ⟨gb102, 0, none⟩ = some (.int .i64 a0_0) := (blk_cell BK102.out 0).trans rfl; have hcz11_1 : w10.cell? ⟨gb102, 1, none⟩ = some (.int .i64 a0_1) := (blk_cell BK102.out 1).trans rfl; have hfz11_0 := blk_frozen BK102.out 0; have hfz11_1 := blk_frozen BK102.out 1) | ((with_reducible refine gate_callee (f := 88) rfl ?_); refine goesL_ (some 5) rfl rfl Tp.func88 (by kernel_rfl) rfl #[.int .i64 a0_0] rfl (by (try simp only [List.map_toArray, List.map_cons, List.map_nil]); (rfl)) ?_; (with_reducible refine (spec_l12Ok.calls a0_0 false _ A2.out).mono ?_); rintro e w' ⟨rfl, ⟨nd, rfl⟩⟩; refine ⟨_, rfl, ?_⟩))
   go_ret
   exact ⟨by (rfl), by repeat (((with_reducible first | exact HB.out | apply pw_below_drewN)))⟩
end Go.Proofs.Ytcoppnbjpncdcaa.PAll
end
