/-
  Part 1 of the proof (merged out of the texts of wip: QAuto, QSpec, QReach, QLock0, QRules, QBits, QLock1, QLock2, QLock3, QLock4, QOps, QTrace, QCrowd, QInv, SemFollow, QStep, QMast).
-/
import Derived.Conc.CrowdBase
import Derived.Conc.MuWords
import Derived.Test.YtcoppnbjpncdcaaProg
import Derived.KernelRfl
import Derived.Conc.DeferLaws
import Derived.Conc.CompanyDraw
import Derived.Conc.CrowdTrace
import Derived.Conc.Beside
import Derived.Conc.MuSpec
import Derived.Conc.Events
import Derived.Calls
import Derived.Laws.Panics
import Derived.Conc.HoldsTime
import Derived.Conc.Own4
import Derived.Below
import Derived.Deep.Draws
import Derived.Deep.AppendLies
import Derived.Maps.AppendAt
import Derived.OwnWalk
import Derived.Laws.BytesArg
import Derived.Laws.MakeOwn
import Derived.Laws.OwnMore
import Derived.Deep.OwnRows
import Derived.Tactics
import Derived.Lib.ConvBytes
import Derived.Laws.Slices
import Derived.WalkKit
import Derived.RowKit3
import Derived.Deep.LoopGhost
import Derived.Deep.QuietTactic
import Derived.BigQuiet
import Derived.WideLaws
import Derived.Deep.DeepCutAuto
import Derived.Deep.CutBlock
import Derived.Deep.RegionHeld3
import Derived.Laws.Rows
import Derived.Lib.AppendStr
import Derived.ArgAppend
import Derived.Laws.IdiomCopy
import Derived.RowKit
import Derived.OrdersHeld
import Derived.Laws.BitsLemmas
import Derived.Laws.StructEq
import Derived.Test.YtcoppnbjpncdcaaRows
import Derived.Lib.SmallJoins
import Derived.ChangeOld
import Derived.OpenShut
import Derived.Carry
import Derived.ProofKit
import Derived.Deep.Slices
import Derived.Deep.Fields
namespace Go
theorem zqa {α : Type} : (∀ l : List α, l.toArray.size = l.length) ∧ (∀ (a : α) (l : List α), (a :: l).length = l.length + 1) ∧ ([] : List α).length = 0 := ⟨fun _ => rfl, fun _ _ => rfl, rfl⟩
theorem zqb {α : Type} : (∀ (l : List α) (i : Nat), l.toArray[i]? = l[i]?) ∧ (∀ (a : α) (l : List α) (i : Nat), (a :: l)[i + 1]? = l[i]?) ∧ ∀ (a : α) (l : List α), (a :: l)[0]? = some a := ⟨fun _ _ => by simp, fun _ _ _ => by simp, fun _ _ => rfl⟩
theorem zqc {α : Type} : (∀ (l : List α) (i : Nat) (h : i < l.toArray.size), l.toArray[i]'h = l[i]'(by simpa using h)) ∧ (∀ (a : α) (l : List α) (h : 0 < (a :: l).length), (a :: l)[0]'h = a) ∧ ∀ (a : α) (l : List α) (i : Nat) (h : i + 1 < (a :: l).length), (a :: l)[i + 1]'h = l[i]'(by simpa using h) := ⟨fun _ _ _ => by simp, fun _ _ _ => rfl, fun _ _ _ _ => rfl⟩
end Go
section
namespace Go.Proofs.Ytcoppnbjpncdcaa.Q
set_option linter.unusedSimpArgs false
open Go.ConcN (sumTo upd sumTo_upd upd_ne upd_same le_sumTo sumTo_congr)
inductive Pc where
 | ld | l0 | r0 | sq | c1 | r1 | c2 | t1 | s1 | t2 | r2 | a1 | r3 | le | la | ur | ud | u0 | uc | ux | us | ue | out
 deriving DecidableEq, Repr
structure Mx where
 l : Nat
 k : Nat
 s : Nat
 c : Nat
 deriving DecidableEq, Repr
def Mx.enc (m : Mx) : Nat := m.l + 2 * m.k + 4 * m.s + 8 * m.c
def Mx.ok (m : Mx) : Prop := m.l ≤ 1 ∧ m.k ≤ 1 ∧ m.s ≤ 1
structure Th where
 pc : Pc
 old : Mx := ⟨0, 0, 0, 0⟩
 aw : Bool := false
 sv : Bool := false
 it : Nat := 0
 cl : Bool := false
 deriving DecidableEq, Repr
abbrev at_ (p : Pc) : Th := { pc := p }
def hd (T : Th) : Th := if T.old.l = 1 ∧ T.old.s = 0 then { T with pc := .sq } else { T with pc := .c2 }
def nw (T : Th) : Mx :=
 ⟨if T.old.s = 0 then 1 else T.old.l, if T.aw then 0 else T.old.k, if T.sv ∧ T.old.l = 1 then 1 else T.old.s, if T.old.l = 1 ∨ T.old.s = 1 then T.old.c + 1 else T.old.c⟩
def uh (o : Mx) : Th := if o.c = 0 ∨ o.l = 1 ∨ o.k = 1 ∨ o.s = 1 then at_ .ue else { pc := .uc, old := o }
inductive Mv : Th → Mx → Nat → Th → Mx → Nat → Prop
 | ld {m ms} : Mv (at_ .ld) m ms (at_ .l0) m ms
 | l0hit {m ms} : m = ⟨0, 0, 0, 0⟩ → Mv (at_ .l0) m ms (at_ .le) ⟨1, 0, 0, 0⟩ ms
 | l0miss {m ms} : m ≠ ⟨0, 0, 0, 0⟩ → Mv (at_ .l0) m ms (at_ .r0) m ms
 | r0 {m ms} : Mv (at_ .r0) m ms (hd { pc := .r0, old := m }) m ms
 | sqno {T m ms} : T.pc = .sq → Mv T m ms { T with pc := .c2 } m ms
 | sqc1 {T m ms} : T.pc = .sq → T.it < 4 → T.aw = false → T.old.k = 0 → T.old.c ≠ 0 → Mv T m ms { T with pc := .c1 } m ms
 | sqr1 {T m ms} : T.pc = .sq → T.it < 4 → ¬ (T.aw = false ∧ T.old.k = 0 ∧ T.old.c ≠ 0) → Mv T m ms { T with pc := .r1 } m ms
 | c1hit {T m ms} : T.pc = .c1 → m = T.old → Mv T m ms { T with pc := .r1, aw := true } { m with k := 1 } ms
 | c1miss {T m ms} : T.pc = .c1 → m ≠ T.old → Mv T m ms { T with pc := .r1 } m ms
 | r1 {T m ms} : T.pc = .r1 → Mv T m ms (hd { T with old := m, it := T.it + 1 }) m ms
 | c2own {T m ms} : T.pc = .c2 → m = T.old → T.old.l = 0 → T.old.s = 0 → Mv T m ms (at_ .le) (nw T) ms
 | c2t1 {T m ms} : T.pc = .c2 → m = T.old → ¬ (T.old.l = 0 ∧ T.old.s = 0) → Mv T m ms { T with pc := .t1 } (nw T) ms
 | c2s1 {T m ms} : T.pc = .c2 → m = T.old → ¬ (T.old.l = 0 ∧ T.old.s = 0) → Mv T m ms { T with pc := .s1 } (nw T) ms
 | c2miss {T m ms} : T.pc = .c2 → m ≠ T.old → Mv T m ms { T with pc := .r3 } m ms
 | t1 {T m ms} : T.pc = .t1 → Mv T m ms { T with pc := .s1 } m ms
 | s1 {T m ms} : T.pc = .s1 → Mv T m (ms + 1) { T with pc := .t2 } m ms
 | t2 {T m ms} (b : Bool) : T.pc = .t2 → Mv T m ms { T with pc := .r2, sv := T.sv || b } m ms
 | r2aw {T m ms} : T.pc = .r2 → m.s = 0 → Mv T m ms (hd { T with old := m, aw := true, it := 0 }) m ms
 | r2st {T m ms} : T.pc = .r2 → m.s = 1 → Mv T m ms { T with pc := .a1, old := m, cl := (!T.sv) || m.c == 1 } m ms
 | a1 {T m ms} : T.pc = .a1 → Mv T m ms (at_ .le) ⟨m.l + 1, m.k, if T.cl then m.s - 1 else m.s, m.c - 1⟩ ms
 | r3 {T m ms} : T.pc = .r3 → Mv T m ms (hd { T with old := m }) m ms
 | le {m ms} : Mv (at_ .le) m ms (at_ .la) m ms
 | la {m ms} : Mv (at_ .la) m ms (at_ .ur) m ms
 | ur {m ms} : Mv (at_ .ur) m ms (at_ .ud) m ms
 | ud {m ms} : Mv (at_ .ud) m ms (at_ .u0) m ms
 | u0 {m ms} : m.s = 0 → Mv (at_ .u0) m ms (uh { m with l := m.l - 1 }) { m with l := m.l - 1 } ms
 | u0st {m ms} : m.s = 1 → Mv (at_ .u0) m ms (at_ .us) { m with l := m.l - 1 } ms
 | uchit {T m ms} : T.pc = .uc → m = T.old → Mv T m ms (at_ .us) { m with k := 1, c := m.c - 1 } ms
 | ucmiss {T m ms} : T.pc = .uc → m ≠ T.old → Mv T m ms (at_ .ux) m ms
 | ux {m ms} : Mv (at_ .ux) m ms (uh m) m ms
 | us {m ms} : Mv (at_ .us) m ms (at_ .ue) m (ms + 1)
 | ue {m ms} : Mv (at_ .ue) m ms (at_ .out) m ms
def one (b : Bool) : Nat := if b then 1 else 0
def inLoop (p : Pc) : Bool := match p with | .sq | .c1 | .r1 | .c2 | .r3 => true | _ => false
def hold (T : Th) : Nat := match T.pc with | .le | .la | .ur | .ud | .u0 => 1 | _ => 0
def usn (T : Th) : Nat := match T.pc with | .us => 1 | _ => 0
def ucn (T : Th) : Nat := match T.pc with | .uc | .ux => 1 | _ => 0
def t2n (T : Th) : Nat := match T.pc with | .t2 | .r2 => 1 | _ => 0
def a1n (T : Th) : Nat := match T.pc with | .a1 => 1 | _ => 0
def regn (T : Th) : Nat := match T.pc with | .t1 | .s1 => 1 | _ => 0
def awn (T : Th) : Nat := match T.pc with | .sq | .c1 | .r1 | .c2 | .r3 => one T.aw | _ => 0
def Th.wf (T : Th) : Prop :=
 T.old.ok ∧ T.it ≤ 4 ∧ (inLoop T.pc = true → T.sv = true → T.aw = true) ∧ (T.pc = .sq → T.old.l = 1 ∧ T.old.s = 0) ∧
 (T.pc = .c1 → T.aw = false ∧ T.old.k = 0 ∧ T.old.c ≠ 0 ∧ T.old.l = 1 ∧ T.old.s = 0 ∧ T.it < 4) ∧ (T.pc = .r1 → T.it < 4) ∧
 (T.pc = .uc → T.old.l = 0 ∧ T.old.k = 0 ∧ T.old.s = 0 ∧ T.old.c ≠ 0) ∧ (inLoop T.pc = true → T.aw = true → T.pc ≠ .c1 ∧ (T.pc ≠ .r3 → T.pc ≠ .r1 → T.old.k = 1 ∧ T.old.s = 0))
structure AInv (n : Nat) (D : Nat → Th) (m : Mx) (ms : Nat) : Prop where
 ok : m.ok
 wf : ∀ i, i < n → (D i).wf
 lock : m.l = sumTo n fun i => hold (D i)
 calm : m.s = 0 → m.k = (sumTo n fun i => usn (D i)) + ms + (sumTo n fun i => t2n (D i)) + (sumTo n fun i => awn (D i)) ∧ (sumTo n fun i => regn (D i)) = m.c + (sumTo n fun i => usn (D i)) + ms ∧ (sumTo n fun i => a1n (D i)) = 0
 storm : m.s = 1 → m.k = 0 ∧ (sumTo n fun i => awn (D i)) = 0 ∧ m.l + (sumTo n fun i => usn (D i)) + ms + (sumTo n fun i => t2n (D i)) + (sumTo n fun i => a1n (D i)) = 1 ∧
   (sumTo n fun i => regn (D i)) + (sumTo n fun i => t2n (D i)) + (sumTo n fun i => a1n (D i)) = m.c
 resp : m.s = 0 → m.l = 0 → m.k = 0 → m.c ≠ 0 → (sumTo n fun i => ucn (D i)) ≠ 0
section
variable {T : Th} {o : Mx}
theorem hd_or (T : Th) : (T.old.l = 1 ∧ T.old.s = 0 ∧ hd T = { T with pc := .sq }) ∨ (¬ (T.old.l = 1 ∧ T.old.s = 0) ∧ hd T = { T with pc := .c2 }) := by
 unfold hd
 by_cases h : T.old.l = 1 ∧ T.old.s = 0
 · exact .inl ⟨h.1, h.2, if_pos h⟩
 · exact .inr ⟨h, if_neg h⟩
theorem hold_hd : hold (hd T) = 0 := by unfold hd; split <;> rfl
theorem usn_hd : usn (hd T) = 0 := by unfold hd; split <;> rfl
theorem ucn_hd : ucn (hd T) = 0 := by unfold hd; split <;> rfl
theorem t2n_hd : t2n (hd T) = 0 := by unfold hd; split <;> rfl
theorem a1n_hd : a1n (hd T) = 0 := by unfold hd; split <;> rfl
theorem regn_hd : regn (hd T) = 0 := by unfold hd; split <;> rfl
theorem awn_hd : awn (hd T) = one T.aw := by unfold hd; split <;> rfl
theorem uh_or (o : Mx) : ((o.c = 0 ∨ o.l = 1 ∨ o.k = 1 ∨ o.s = 1) ∧ uh o = at_ .ue) ∨ (¬ (o.c = 0 ∨ o.l = 1 ∨ o.k = 1 ∨ o.s = 1) ∧ uh o = { pc := .uc, old := o }) := by
 unfold uh
 by_cases h : o.c = 0 ∨ o.l = 1 ∨ o.k = 1 ∨ o.s = 1
 · exact .inl ⟨h, if_pos h⟩
 · exact .inr ⟨h, if_neg h⟩
theorem hold_uh : hold (uh o) = 0 := by unfold uh; split <;> rfl
theorem usn_uh : usn (uh o) = 0 := by unfold uh; split <;> rfl
theorem t2n_uh : t2n (uh o) = 0 := by unfold uh; split <;> rfl
theorem a1n_uh : a1n (uh o) = 0 := by unfold uh; split <;> rfl
theorem regn_uh : regn (uh o) = 0 := by unfold uh; split <;> rfl
theorem awn_uh : awn (uh o) = 0 := by unfold uh; split <;> rfl
theorem ucn_uh : ucn (uh o) = one (decide ¬ (o.c = 0 ∨ o.l = 1 ∨ o.k = 1 ∨ o.s = 1)) := by
 unfold uh
 split
 · rename_i h; rw [decide_eq_false (not_not_intro h)]; rfl
 · rename_i h; rw [decide_eq_true h]; rfl
theorem wf_hd (h1 : T.old.ok) (h2 : T.it ≤ 4) (h3 : T.sv = true → T.aw = true) (h4 : T.aw = true → T.old.k = 1 ∧ T.old.s = 0) : (hd T).wf := by
 rcases hd_or T with ⟨a, b, e⟩ | ⟨a, e⟩ <;> rw [e]
 · exact ⟨h1, h2, fun _ => h3, fun _ => ⟨a, b⟩, fun h => by simp at h, fun h => by simp at h, fun h => by simp at h, fun _ x => ⟨by simp, fun _ _ => h4 x⟩⟩
 · exact ⟨h1, h2, fun _ => h3, fun h => by simp at h, fun h => by simp at h, fun h => by simp at h, fun h => by simp at h, fun _ x => ⟨by simp, fun _ _ => h4 x⟩⟩
theorem wf_at (p : Pc) (h1 : inLoop p = false) (h2 : p ≠ .uc) : (at_ p).wf := by
 refine ⟨⟨by simp, by simp, by simp⟩, by simp, fun h => ?_, fun h => ?_, fun h => ?_, fun h => ?_, fun h => absurd h h2, fun h => ?_⟩
 · rw [show (at_ p).pc = p from rfl, h1] at h; cases h
 · rw [show (at_ p).pc = p from rfl] at h; subst h; cases h1
 · rw [show (at_ p).pc = p from rfl] at h; subst h; cases h1
 · rw [show (at_ p).pc = p from rfl] at h; subst h; cases h1
 · rw [show (at_ p).pc = p from rfl, h1] at h; cases h
theorem wf_uh (h : o.ok) : (uh o).wf := by
 rcases uh_or o with ⟨_, e⟩ | ⟨a, e⟩ <;> rw [e]
 · exact wf_at _ rfl (by simp)
 · obtain ⟨h1, h2, h3⟩ := h
   refine ⟨⟨h1, h2, h3⟩, by simp, by simp [inLoop], by simp, by simp, by simp, fun _ => ⟨?_, ?_, ?_, ?_⟩, by simp [inLoop]⟩ <;> (simp only; omega)
end
theorem AInv.step {n : Nat} {D : Nat → Th} {m m' : Mx} {ms ms' : Nat} {i : Nat} {T' : Th} (h : AInv n D m ms) (hi : i < n) (hv : Mv (D i) m ms T' m' ms') : AInv n (upd D i T') m' ms' := by
 obtain ⟨⟨k1, k2, k3⟩, hwf, hlock, hcalm, hstorm, hresp⟩ := h
 have e1 := sumTo_upd D T' hold hi
 have e2 := sumTo_upd D T' usn hi
 have e3 := sumTo_upd D T' ucn hi
 have e4 := sumTo_upd D T' t2n hi
 have e5 := sumTo_upd D T' a1n hi
 have e6 := sumTo_upd D T' regn hi
 have e7 := sumTo_upd D T' awn hi
 have b1 : hold (D i) ≤ _ := le_sumTo (f := fun a => hold (D a)) hi
 have b2 : usn (D i) ≤ _ := le_sumTo (f := fun a => usn (D a)) hi
 have b3 : ucn (D i) ≤ _ := le_sumTo (f := fun a => ucn (D a)) hi
 have b4 : t2n (D i) ≤ _ := le_sumTo (f := fun a => t2n (D a)) hi
 have b5 : a1n (D i) ≤ _ := le_sumTo (f := fun a => a1n (D a)) hi
 have b6 : regn (D i) ≤ _ := le_sumTo (f := fun a => regn (D a)) hi
 have b7 : awn (D i) ≤ _ := le_sumTo (f := fun a => awn (D a)) hi
 have hwi := hwf i hi
 have wfs : T'.wf → ∀ j, j < n → (upd D i T' j).wf := by
   intro hw j hj
   by_cases hji : j = i
   · subst hji; rw [upd_same]; exact hw
   · rw [upd_ne D T' hji]; exact hwf j hj
 generalize (sumTo n fun a => hold (D a)) = H at *
 generalize (sumTo n fun a => usn (D a)) = U at *
 generalize (sumTo n fun a => ucn (D a)) = C at *
 generalize (sumTo n fun a => t2n (D a)) = R at *
 generalize (sumTo n fun a => a1n (D a)) = A at *
 generalize (sumTo n fun a => regn (D a)) = G at *
 generalize (sumTo n fun a => awn (D a)) = W at *
 have fin : (m'.ok ∧ T'.wf ∧ (∀ H' U' C' R' A' G' W' : Nat, H' + hold (D i) = H + hold T' → U' + usn (D i) = U + usn T' → C' + ucn (D i) = C + ucn T' → R' + t2n (D i) = R + t2n T' → A' + a1n (D i) = A + a1n T' → G' + regn (D i) = G + regn T' → W' + awn (D i) = W + awn T' →
     m'.l = H' ∧ (m'.s = 0 → m'.k = U' + ms' + R' + W' ∧ G' = m'.c + U' + ms' ∧ A' = 0) ∧ (m'.s = 1 → m'.k = 0 ∧ W' = 0 ∧ m'.l + U' + ms' + R' + A' = 1 ∧ G' + R' + A' = m'.c) ∧ (m'.s = 0 → m'.l = 0 → m'.k = 0 → m'.c ≠ 0 → C' ≠ 0))) → AInv n (upd D i T') m' ms' := by
   rintro ⟨h1, h2, h3⟩
   obtain ⟨g1, g2, g3, g4⟩ := h3 _ _ _ _ _ _ _ e1 e2 e3 e4 e5 e6 e7
   exact ⟨h1, wfs h2, g1, g2, g3, g4⟩
 apply fin
 clear fin e1 e2 e3 e4 e5 e6 e7 wfs hwf
 have one1 : ∀ b, one b ≤ 1 := fun b => by cases b <;> simp [one]
 generalize D i = T at *
 cases hv
 case ld  =>
   refine ⟨⟨k1, k2, k3⟩, wf_at _ rfl (by simp), ?_⟩
   intro H' U' C' R' A' G' W' e1 e2 e3 e4 e5 e6 e7
   try simp only [hold_hd, usn_hd, ucn_hd, t2n_hd, a1n_hd, regn_hd, awn_hd, hold_uh, usn_uh, ucn_uh, t2n_uh, a1n_uh, regn_uh, awn_uh] at e1 e2 e3 e4 e5 e6 e7
   simp only [hold, usn, ucn, t2n, a1n, regn, awn] at e1 e2 e3 e4 e5 e6 e7 b1 b2 b3 b4 b5 b6 b7
   refine ⟨?_, fun h0 => ?_, fun h0 => ?_, fun h0 h1 h2 h3 => ?_⟩ <;> first | omega | (have := hcalm h0; omega) | (have := hstorm h0; omega) | (have := hcalm h0; have := hresp h0; omega)
 case l0hit hm =>
   subst hm
   have hc := hcalm rfl
   simp only at hc hlock
   refine ⟨⟨by simp, by simp, by simp⟩, wf_at _ rfl (by simp), ?_⟩
   intro H' U' C' R' A' G' W' e1 e2 e3 e4 e5 e6 e7
   try simp only [hold_hd, usn_hd, ucn_hd, t2n_hd, a1n_hd, regn_hd, awn_hd, hold_uh, usn_uh, ucn_uh, t2n_uh, a1n_uh, regn_uh, awn_uh] at e1 e2 e3 e4 e5 e6 e7
   simp only [hold, usn, ucn, t2n, a1n, regn, awn] at e1 e2 e3 e4 e5 e6 e7 b1 b2 b3 b4 b5 b6 b7
   refine ⟨?_, fun h0 => ?_, fun h0 => ?_, fun h0 h1 h2 h3 => ?_⟩ <;> first | (simp only; omega) | (simp at h0; done) | (simp at h1; done)
 case l0miss hm =>
   refine ⟨⟨k1, k2, k3⟩, wf_at _ rfl (by simp), ?_⟩
   intro H' U' C' R' A' G' W' e1 e2 e3 e4 e5 e6 e7
   try simp only [hold_hd, usn_hd, ucn_hd, t2n_hd, a1n_hd, regn_hd, awn_hd, hold_uh, usn_uh, ucn_uh, t2n_uh, a1n_uh, regn_uh, awn_uh] at e1 e2 e3 e4 e5 e6 e7
   simp only [hold, usn, ucn, t2n, a1n, regn, awn] at e1 e2 e3 e4 e5 e6 e7 b1 b2 b3 b4 b5 b6 b7
   refine ⟨?_, fun h0 => ?_, fun h0 => ?_, fun h0 h1 h2 h3 => ?_⟩ <;> first | omega | (have := hcalm h0; omega) | (have := hstorm h0; omega) | (have := hcalm h0; have := hresp h0; omega)
 case r0  =>
   refine ⟨⟨k1, k2, k3⟩, wf_hd ⟨k1, k2, k3⟩ (by simp) (by simp) (by simp), ?_⟩
   intro H' U' C' R' A' G' W' e1 e2 e3 e4 e5 e6 e7
   try simp only [hold_hd, usn_hd, ucn_hd, t2n_hd, a1n_hd, regn_hd, awn_hd] at e1 e2 e3 e4 e5 e6 e7
   simp only [hold, usn, ucn, t2n, a1n, regn, awn, one, Bool.false_eq_true, if_false] at e1 e2 e3 e4 e5 e6 e7 b1 b2 b3 b4 b5 b6 b7
   refine ⟨?_, fun h0 => ?_, fun h0 => ?_, fun h0 h1 h2 h3 => ?_⟩ <;> first | omega | (have := hcalm h0; omega) | (have := hstorm h0; omega) | (have := hcalm h0; have := hresp h0; omega)
 case sqno hp =>
   obtain ⟨o, hit, hsv, hsq, hc1, hr1, huc, haw⟩ := hwi
   refine ⟨⟨k1, k2, k3⟩, ⟨o, hit, fun _ => hsv (by rw [hp]; rfl), by simp, by simp, by simp, by simp, fun _ x => ⟨by simp, fun _ _ => (haw (by rw [hp]; rfl) x).2 (by rw [hp]; simp) (by rw [hp]; simp)⟩⟩, ?_⟩
   intro H' U' C' R' A' G' W' e1 e2 e3 e4 e5 e6 e7
   try simp only [hold_hd, usn_hd, ucn_hd, t2n_hd, a1n_hd, regn_hd, awn_hd, hold_uh, usn_uh, ucn_uh, t2n_uh, a1n_uh, regn_uh, awn_uh] at e1 e2 e3 e4 e5 e6 e7
   simp only [hold, usn, ucn, t2n, a1n, regn, awn, hp] at e1 e2 e3 e4 e5 e6 e7 b1 b2 b3 b4 b5 b6 b7
   refine ⟨?_, fun h0 => ?_, fun h0 => ?_, fun h0 h1 h2 h3 => ?_⟩ <;> first | omega | (have := hcalm h0; omega) | (have := hstorm h0; omega) | (have := hcalm h0; have := hresp h0; omega)
 case sqc1 hp h1 h2 h3 h4 =>
   obtain ⟨o, hit, hsv, hsq, hc1, hr1, huc, haw⟩ := hwi
   refine ⟨⟨k1, k2, k3⟩, ⟨o, hit, fun _ => hsv (by rw [hp]; rfl), by simp, fun _ => ⟨h2, h3, h4, (hsq hp).1, (hsq hp).2, h1⟩, by simp, by simp, fun _ x => absurd (h2.symm.trans x) (by simp)⟩, ?_⟩
   intro H' U' C' R' A' G' W' e1 e2 e3 e4 e5 e6 e7
   try simp only [hold_hd, usn_hd, ucn_hd, t2n_hd, a1n_hd, regn_hd, awn_hd, hold_uh, usn_uh, ucn_uh, t2n_uh, a1n_uh, regn_uh, awn_uh] at e1 e2 e3 e4 e5 e6 e7
   simp only [hold, usn, ucn, t2n, a1n, regn, awn, hp] at e1 e2 e3 e4 e5 e6 e7 b1 b2 b3 b4 b5 b6 b7
   refine ⟨?_, fun h0 => ?_, fun h0 => ?_, fun h0 h1 h2 h3 => ?_⟩ <;> first | omega | (have := hcalm h0; omega) | (have := hstorm h0; omega) | (have := hcalm h0; have := hresp h0; omega)
 case sqr1 hp h1 h2 =>
   obtain ⟨o, hit, hsv, hsq, hc1, hr1, huc, haw⟩ := hwi
   refine ⟨⟨k1, k2, k3⟩, ⟨o, hit, fun _ => hsv (by rw [hp]; rfl), by simp, by simp, fun _ => h1, by simp, fun _ x => ⟨by simp, fun _ q => absurd rfl q⟩⟩, ?_⟩
   intro H' U' C' R' A' G' W' e1 e2 e3 e4 e5 e6 e7
   try simp only [hold_hd, usn_hd, ucn_hd, t2n_hd, a1n_hd, regn_hd, awn_hd, hold_uh, usn_uh, ucn_uh, t2n_uh, a1n_uh, regn_uh, awn_uh] at e1 e2 e3 e4 e5 e6 e7
   simp only [hold, usn, ucn, t2n, a1n, regn, awn, hp] at e1 e2 e3 e4 e5 e6 e7 b1 b2 b3 b4 b5 b6 b7
   refine ⟨?_, fun h0 => ?_, fun h0 => ?_, fun h0 h1 h2 h3 => ?_⟩ <;> first | omega | (have := hcalm h0; omega) | (have := hstorm h0; omega) | (have := hcalm h0; have := hresp h0; omega)
 case c1hit hp hm =>
   obtain ⟨o, hit, hsv, hsq, hc1, hr1, huc, haw⟩ := hwi
   obtain ⟨q1, q2, q3, q4, q5, q6⟩ := hc1 hp
   rw [← hm] at q2 q3 q4 q5
   refine ⟨⟨k1, by simp, k3⟩, ⟨o, hit, fun _ _ => rfl, by simp, by simp, fun _ => (hc1 hp).2.2.2.2.2, by simp, fun _ x => ⟨by simp, fun _ q => absurd rfl q⟩⟩, ?_⟩
   intro H' U' C' R' A' G' W' e1 e2 e3 e4 e5 e6 e7
   try simp only [hold_hd, usn_hd, ucn_hd, t2n_hd, a1n_hd, regn_hd, awn_hd, hold_uh, usn_uh, ucn_uh, t2n_uh, a1n_uh, regn_uh, awn_uh] at e1 e2 e3 e4 e5 e6 e7
   simp only [hold, usn, ucn, t2n, a1n, regn, awn, hp, q1, one, Bool.false_eq_true, if_false, if_true] at e1 e2 e3 e4 e5 e6 e7 b1 b2 b3 b4 b5 b6 b7
   have hc := hcalm q5
   refine ⟨?_, fun h0 => ?_, fun h0 => ?_, fun h0 h1 h2 h3 => ?_⟩ <;> (simp only at *; omega)
 case c1miss hp hm =>
   obtain ⟨o, hit, hsv, hsq, hc1, hr1, huc, haw⟩ := hwi
   refine ⟨⟨k1, k2, k3⟩, ⟨o, hit, fun _ => hsv (by rw [hp]; rfl), by simp, by simp, fun _ => (hc1 hp).2.2.2.2.2, by simp, fun _ x => ⟨by simp, fun _ q => absurd rfl q⟩⟩, ?_⟩
   intro H' U' C' R' A' G' W' e1 e2 e3 e4 e5 e6 e7
   try simp only [hold_hd, usn_hd, ucn_hd, t2n_hd, a1n_hd, regn_hd, awn_hd, hold_uh, usn_uh, ucn_uh, t2n_uh, a1n_uh, regn_uh, awn_uh] at e1 e2 e3 e4 e5 e6 e7
   simp only [hold, usn, ucn, t2n, a1n, regn, awn, hp] at e1 e2 e3 e4 e5 e6 e7 b1 b2 b3 b4 b5 b6 b7
   refine ⟨?_, fun h0 => ?_, fun h0 => ?_, fun h0 h1 h2 h3 => ?_⟩ <;> first | omega | (have := hcalm h0; omega) | (have := hstorm h0; omega) | (have := hcalm h0; have := hresp h0; omega)
 case r1 hp =>
   obtain ⟨o, hit, hsv, hsq, hc1, hr1, huc, haw⟩ := hwi
   have hk1 : T.aw = true → m.k = 1 ∧ m.s = 0 := fun x => by
     have hb : awn T = 1 := by simp only [awn, hp, x, one, if_true]
     have hs0 : m.s = 0 := by
       rcases Nat.eq_zero_or_pos m.s with h | h
       · exact h
       · have := hstorm (by omega); omega
     have := hcalm hs0
     omega
   refine ⟨⟨k1, k2, k3⟩, wf_hd ⟨k1, k2, k3⟩ (by have := hr1 hp; simp only; omega) (hsv (by rw [hp]; rfl)) hk1, ?_⟩
   intro H' U' C' R' A' G' W' e1 e2 e3 e4 e5 e6 e7
   try simp only [hold_hd, usn_hd, ucn_hd, t2n_hd, a1n_hd, regn_hd, awn_hd] at e1 e2 e3 e4 e5 e6 e7
   simp only [hold, usn, ucn, t2n, a1n, regn, awn, hp] at e1 e2 e3 e4 e5 e6 e7 b1 b2 b3 b4 b5 b6 b7
   refine ⟨?_, fun h0 => ?_, fun h0 => ?_, fun h0 h1 h2 h3 => ?_⟩ <;> first | omega | (have := hcalm h0; omega) | (have := hstorm h0; omega) | (have := hcalm h0; have := hresp h0; omega)
 case r3 hp =>
   obtain ⟨o, hit, hsv, hsq, hc1, hr1, huc, haw⟩ := hwi
   have hk1 : T.aw = true → m.k = 1 ∧ m.s = 0 := fun x => by
     have hb : awn T = 1 := by simp only [awn, hp, x, one, if_true]
     have hs0 : m.s = 0 := by
       rcases Nat.eq_zero_or_pos m.s with h | h
       · exact h
       · have := hstorm (by omega); omega
     have := hcalm hs0
     omega
   refine ⟨⟨k1, k2, k3⟩, wf_hd ⟨k1, k2, k3⟩ hit (hsv (by rw [hp]; rfl)) hk1, ?_⟩
   intro H' U' C' R' A' G' W' e1 e2 e3 e4 e5 e6 e7
   try simp only [hold_hd, usn_hd, ucn_hd, t2n_hd, a1n_hd, regn_hd, awn_hd] at e1 e2 e3 e4 e5 e6 e7
   simp only [hold, usn, ucn, t2n, a1n, regn, awn, hp] at e1 e2 e3 e4 e5 e6 e7 b1 b2 b3 b4 b5 b6 b7
   refine ⟨?_, fun h0 => ?_, fun h0 => ?_, fun h0 h1 h2 h3 => ?_⟩ <;> first | omega | (have := hcalm h0; omega) | (have := hstorm h0; omega) | (have := hcalm h0; have := hresp h0; omega)
 case c2own hp hl hs hm =>
   obtain ⟨o, hit, hsv, hsq, hc1, hr1, huc, haw⟩ := hwi
   rw [← hm] at hl hs
   have hn : nw T = ⟨1, if T.aw then 0 else m.k, 0, m.c⟩ := by simp [nw, ← hm, hl, hs]
   have hawk : T.aw = true → m.k = 1 := fun x => by rw [hm]; exact ((haw (by rw [hp]; rfl) x).2 (by rw [hp]; simp) (by rw [hp]; simp)).1
   have hc := hcalm hs
   refine ⟨(by rw [hn]; exact ⟨Nat.le_refl _, by simp only; split <;> omega, Nat.zero_le _⟩), wf_at _ rfl (by simp), ?_⟩
   intro H' U' C' R' A' G' W' e1 e2 e3 e4 e5 e6 e7
   try simp only [hold_hd, usn_hd, ucn_hd, t2n_hd, a1n_hd, regn_hd, awn_hd, hold_uh, usn_uh, ucn_uh, t2n_uh, a1n_uh, regn_uh, awn_uh] at e1 e2 e3 e4 e5 e6 e7
   simp only [hold, usn, ucn, t2n, a1n, regn, awn, hp] at e1 e2 e3 e4 e5 e6 e7 b1 b2 b3 b4 b5 b6 b7
   rw [hn]
   simp only
   cases hq : T.aw with
   | true =>
     have := hawk hq
     simp only [hq, one, if_true] at e7 b7
     refine ⟨?_, fun h0 => ?_, fun h0 => ?_, fun h0 h1 h2 h3 => ?_⟩ <;> ((try simp only [↓reduceIte, true_and] at *) <;> omega)
   | false =>
     simp only [hq, one, Bool.false_eq_true, if_false] at e7 b7
     refine ⟨?_, fun h0 => ?_, fun h0 => ?_, fun h0 h1 h2 h3 => ?_⟩ <;> ((try simp only [↓reduceIte, Bool.false_eq_true] at *) <;> omega)
 case c2t1 hp hn hm =>
   obtain ⟨o, hit, hsv, hsq, hc1, hr1, huc, haw⟩ := hwi
   have hawk : T.aw = true → m.k = 1 ∧ m.s = 0 := fun x => by rw [hm]; exact (haw (by rw [hp]; rfl) x).2 (by rw [hp]; simp) (by rw [hp]; simp)
   have hsa : T.sv = true → T.aw = true := hsv (by rw [hp]; rfl)
   rw [← hm] at hn
   have hor : m.l = 1 ∨ m.s = 1 := by omega
   have hnw : nw T = ⟨if m.s = 0 then 1 else m.l, if T.aw then 0 else m.k, if T.sv ∧ m.l = 1 then 1 else m.s, m.c + 1⟩ := by simp only [nw, ← hm, if_pos hor]
   rw [hnw]
   refine ⟨⟨by simp only; split <;> omega, by simp only; split <;> omega, by simp only; split <;> omega⟩, ⟨o, hit, by simp [inLoop], by simp, by simp, by simp, by simp, by simp [inLoop]⟩, ?_⟩
   intro H' U' C' R' A' G' W' e1 e2 e3 e4 e5 e6 e7
   try simp only [hold_hd, usn_hd, ucn_hd, t2n_hd, a1n_hd, regn_hd, awn_hd, hold_uh, usn_uh, ucn_uh, t2n_uh, a1n_uh, regn_uh, awn_uh] at e1 e2 e3 e4 e5 e6 e7
   simp only [hold, usn, ucn, t2n, a1n, regn, awn, hp] at e1 e2 e3 e4 e5 e6 e7 b1 b2 b3 b4 b5 b6 b7
   simp only
   rcases (show m.s = 0 ∨ m.s = 1 by omega) with hs | hs
   · have hc := hcalm hs
     have hl : m.l = 1 := by omega
     simp only [hs, hl, if_true, and_true]
     cases hq : T.aw with
     | true =>
       have := hawk hq
       simp only [hq, one, if_true] at e7 b7
       cases hv : T.sv with
       | true => refine ⟨?_, fun h0 => ?_, fun h0 => ?_, fun h0 h1 h2 h3 => ?_⟩ <;> first | (simp at h0; done) | ((try simp only [↓reduceIte, true_and] at *) <;> omega)
       | false => refine ⟨?_, fun h0 => ?_, fun h0 => ?_, fun h0 h1 h2 h3 => ?_⟩ <;> first | (simp at h0; done) | ((try simp only [↓reduceIte, Bool.false_eq_true] at *) <;> omega)
     | false =>
       have hv : T.sv = false := by cases h : T.sv with
         | true => rw [hsa h] at hq; cases hq
         | false => rfl
       simp only [hq, one, Bool.false_eq_true, if_false] at e7 b7
       refine ⟨?_, fun h0 => ?_, fun h0 => ?_, fun h0 h1 h2 h3 => ?_⟩ <;> first | (simp [hv] at h0; done) | ((try simp only [↓reduceIte, Bool.false_eq_true] at *) <;> omega)
   · have hc := hstorm hs
     have hq : T.aw = false := by cases h : T.aw with
       | true => have := (hawk h).2; omega
       | false => rfl
     simp only [hs, hq, ite_self, Bool.false_eq_true, if_false]
     simp only [hq, one, Bool.false_eq_true, if_false] at e7 b7
     refine ⟨?_, fun h0 => ?_, fun h0 => ?_, fun h0 h1 h2 h3 => ?_⟩ <;> first | (simp at h0; done) | (simp; omega) | omega
 case c2s1 hp hn hm =>
   obtain ⟨o, hit, hsv, hsq, hc1, hr1, huc, haw⟩ := hwi
   have hawk : T.aw = true → m.k = 1 ∧ m.s = 0 := fun x => by rw [hm]; exact (haw (by rw [hp]; rfl) x).2 (by rw [hp]; simp) (by rw [hp]; simp)
   have hsa : T.sv = true → T.aw = true := hsv (by rw [hp]; rfl)
   rw [← hm] at hn
   have hor : m.l = 1 ∨ m.s = 1 := by omega
   have hnw : nw T = ⟨if m.s = 0 then 1 else m.l, if T.aw then 0 else m.k, if T.sv ∧ m.l = 1 then 1 else m.s, m.c + 1⟩ := by simp only [nw, ← hm, if_pos hor]
   rw [hnw]
   refine ⟨⟨by simp only; split <;> omega, by simp only; split <;> omega, by simp only; split <;> omega⟩, ⟨o, hit, by simp [inLoop], by simp, by simp, by simp, by simp, by simp [inLoop]⟩, ?_⟩
   intro H' U' C' R' A' G' W' e1 e2 e3 e4 e5 e6 e7
   try simp only [hold_hd, usn_hd, ucn_hd, t2n_hd, a1n_hd, regn_hd, awn_hd, hold_uh, usn_uh, ucn_uh, t2n_uh, a1n_uh, regn_uh, awn_uh] at e1 e2 e3 e4 e5 e6 e7
   simp only [hold, usn, ucn, t2n, a1n, regn, awn, hp] at e1 e2 e3 e4 e5 e6 e7 b1 b2 b3 b4 b5 b6 b7
   simp only
   rcases (show m.s = 0 ∨ m.s = 1 by omega) with hs | hs
   · have hc := hcalm hs
     have hl : m.l = 1 := by omega
     simp only [hs, hl, if_true, and_true]
     cases hq : T.aw with
     | true =>
       have := hawk hq
       simp only [hq, one, if_true] at e7 b7
       cases hv : T.sv with
       | true => refine ⟨?_, fun h0 => ?_, fun h0 => ?_, fun h0 h1 h2 h3 => ?_⟩ <;> first | (simp at h0; done) | ((try simp only [↓reduceIte, true_and] at *) <;> omega)
       | false => refine ⟨?_, fun h0 => ?_, fun h0 => ?_, fun h0 h1 h2 h3 => ?_⟩ <;> first | (simp at h0; done) | ((try simp only [↓reduceIte, Bool.false_eq_true] at *) <;> omega)
     | false =>
       have hv : T.sv = false := by cases h : T.sv with
         | true => rw [hsa h] at hq; cases hq
         | false => rfl
       simp only [hq, one, Bool.false_eq_true, if_false] at e7 b7
       refine ⟨?_, fun h0 => ?_, fun h0 => ?_, fun h0 h1 h2 h3 => ?_⟩ <;> first | (simp [hv] at h0; done) | ((try simp only [↓reduceIte, Bool.false_eq_true] at *) <;> omega)
   · have hc := hstorm hs
     have hq : T.aw = false := by cases h : T.aw with
       | true => have := (hawk h).2; omega
       | false => rfl
     simp only [hs, hq, ite_self, Bool.false_eq_true, if_false]
     simp only [hq, one, Bool.false_eq_true, if_false] at e7 b7
     refine ⟨?_, fun h0 => ?_, fun h0 => ?_, fun h0 h1 h2 h3 => ?_⟩ <;> first | (simp at h0; done) | (simp; omega) | omega
 case c2miss hp hm =>
   obtain ⟨o, hit, hsv, hsq, hc1, hr1, huc, haw⟩ := hwi
   refine ⟨⟨k1, k2, k3⟩, ⟨o, hit, fun _ => hsv (by rw [hp]; rfl), by simp, by simp, by simp, by simp, fun _ x => ⟨by simp, fun q => absurd rfl q⟩⟩, ?_⟩
   intro H' U' C' R' A' G' W' e1 e2 e3 e4 e5 e6 e7
   try simp only [hold_hd, usn_hd, ucn_hd, t2n_hd, a1n_hd, regn_hd, awn_hd, hold_uh, usn_uh, ucn_uh, t2n_uh, a1n_uh, regn_uh, awn_uh] at e1 e2 e3 e4 e5 e6 e7
   simp only [hold, usn, ucn, t2n, a1n, regn, awn, hp] at e1 e2 e3 e4 e5 e6 e7 b1 b2 b3 b4 b5 b6 b7
   refine ⟨?_, fun h0 => ?_, fun h0 => ?_, fun h0 h1 h2 h3 => ?_⟩ <;> first | omega | (have := hcalm h0; omega) | (have := hstorm h0; omega) | (have := hcalm h0; have := hresp h0; omega)
 case t1 hp =>
   obtain ⟨o, hit, hsv, hsq, hc1, hr1, huc, haw⟩ := hwi
   refine ⟨⟨k1, k2, k3⟩, ⟨o, hit, by simp [inLoop], by simp, by simp, by simp, by simp, by simp [inLoop]⟩, ?_⟩
   intro H' U' C' R' A' G' W' e1 e2 e3 e4 e5 e6 e7
   try simp only [hold_hd, usn_hd, ucn_hd, t2n_hd, a1n_hd, regn_hd, awn_hd, hold_uh, usn_uh, ucn_uh, t2n_uh, a1n_uh, regn_uh, awn_uh] at e1 e2 e3 e4 e5 e6 e7
   simp only [hold, usn, ucn, t2n, a1n, regn, awn, hp] at e1 e2 e3 e4 e5 e6 e7 b1 b2 b3 b4 b5 b6 b7
   refine ⟨?_, fun h0 => ?_, fun h0 => ?_, fun h0 h1 h2 h3 => ?_⟩ <;> first | omega | (have := hcalm h0; omega) | (have := hstorm h0; omega) | (have := hcalm h0; have := hresp h0; omega)
 case s1 hp =>
   obtain ⟨o, hit, hsv, hsq, hc1, hr1, huc, haw⟩ := hwi
   refine ⟨⟨k1, k2, k3⟩, ⟨o, hit, by simp [inLoop], by simp, by simp, by simp, by simp, by simp [inLoop]⟩, ?_⟩
   intro H' U' C' R' A' G' W' e1 e2 e3 e4 e5 e6 e7
   try simp only [hold_hd, usn_hd, ucn_hd, t2n_hd, a1n_hd, regn_hd, awn_hd, hold_uh, usn_uh, ucn_uh, t2n_uh, a1n_uh, regn_uh, awn_uh] at e1 e2 e3 e4 e5 e6 e7
   simp only [hold, usn, ucn, t2n, a1n, regn, awn, hp] at e1 e2 e3 e4 e5 e6 e7 b1 b2 b3 b4 b5 b6 b7
   refine ⟨?_, fun h0 => ?_, fun h0 => ?_, fun h0 h1 h2 h3 => ?_⟩ <;> first | omega | (have := hcalm h0; omega) | (have := hstorm h0; omega) | (have := hcalm h0; have := hresp h0; omega)
 case t2 b hp =>
   obtain ⟨o, hit, hsv, hsq, hc1, hr1, huc, haw⟩ := hwi
   refine ⟨⟨k1, k2, k3⟩, ⟨o, hit, by simp [inLoop], by simp, by simp, by simp, by simp, by simp [inLoop]⟩, ?_⟩
   intro H' U' C' R' A' G' W' e1 e2 e3 e4 e5 e6 e7
   try simp only [hold_hd, usn_hd, ucn_hd, t2n_hd, a1n_hd, regn_hd, awn_hd, hold_uh, usn_uh, ucn_uh, t2n_uh, a1n_uh, regn_uh, awn_uh] at e1 e2 e3 e4 e5 e6 e7
   simp only [hold, usn, ucn, t2n, a1n, regn, awn, hp] at e1 e2 e3 e4 e5 e6 e7 b1 b2 b3 b4 b5 b6 b7
   refine ⟨?_, fun h0 => ?_, fun h0 => ?_, fun h0 h1 h2 h3 => ?_⟩ <;> first | omega | (have := hcalm h0; omega) | (have := hstorm h0; omega) | (have := hcalm h0; have := hresp h0; omega)
 case r2aw hp hs =>
   obtain ⟨o, hit, hsv, hsq, hc1, hr1, huc, haw⟩ := hwi
   have hk1 : m.k = 1 := by
     have hc := hcalm hs
     have ht : t2n T = 1 := by simp only [t2n, hp]
     omega
   refine ⟨⟨k1, k2, k3⟩, wf_hd ⟨k1, k2, k3⟩ (by simp) (by simp) (fun _ => ⟨hk1, hs⟩), ?_⟩
   intro H' U' C' R' A' G' W' e1 e2 e3 e4 e5 e6 e7
   try simp only [hold_hd, usn_hd, ucn_hd, t2n_hd, a1n_hd, regn_hd, awn_hd] at e1 e2 e3 e4 e5 e6 e7
   simp only [hold, usn, ucn, t2n, a1n, regn, awn, hp, one, if_true] at e1 e2 e3 e4 e5 e6 e7 b1 b2 b3 b4 b5 b6 b7
   have := hcalm hs
   refine ⟨?_, fun h0 => ?_, fun h0 => ?_, fun h0 h1 h2 h3 => ?_⟩ <;> omega
 case r2st hp hs =>
   obtain ⟨o, hit, hsv, hsq, hc1, hr1, huc, haw⟩ := hwi
   refine ⟨⟨k1, k2, k3⟩, ⟨⟨k1, k2, k3⟩, hit, by simp [inLoop], by simp, by simp, by simp, by simp, by simp [inLoop]⟩, ?_⟩
   intro H' U' C' R' A' G' W' e1 e2 e3 e4 e5 e6 e7
   try simp only [hold_hd, usn_hd, ucn_hd, t2n_hd, a1n_hd, regn_hd, awn_hd, hold_uh, usn_uh, ucn_uh, t2n_uh, a1n_uh, regn_uh, awn_uh] at e1 e2 e3 e4 e5 e6 e7
   simp only [hold, usn, ucn, t2n, a1n, regn, awn, hp] at e1 e2 e3 e4 e5 e6 e7 b1 b2 b3 b4 b5 b6 b7
   refine ⟨?_, fun h0 => ?_, fun h0 => ?_, fun h0 h1 h2 h3 => ?_⟩ <;> first | omega | (have := hcalm h0; omega) | (have := hstorm h0; omega) | (have := hcalm h0; have := hresp h0; omega)
 case a1 hp =>
   have ha : a1n T = 1 := by simp only [a1n, hp]
   have hs : m.s = 1 := by
     rcases (show m.s = 0 ∨ m.s = 1 by omega) with hs | hs
     · have := hcalm hs; omega
     · exact hs
   have hc := hstorm hs
   refine ⟨⟨by simp only; omega, k2, by simp only; split <;> omega⟩, wf_at _ rfl (by simp), ?_⟩
   intro H' U' C' R' A' G' W' e1 e2 e3 e4 e5 e6 e7
   try simp only [hold_hd, usn_hd, ucn_hd, t2n_hd, a1n_hd, regn_hd, awn_hd, hold_uh, usn_uh, ucn_uh, t2n_uh, a1n_uh, regn_uh, awn_uh] at e1 e2 e3 e4 e5 e6 e7
   simp only [hold, usn, ucn, t2n, a1n, regn, awn, hp] at e1 e2 e3 e4 e5 e6 e7 b1 b2 b3 b4 b5 b6 b7
   simp only
   cases T.cl with
   | true => refine ⟨?_, fun h0 => ?_, fun h0 => ?_, fun h0 h1 h2 h3 => ?_⟩ <;> (try simp only [if_true] at *) <;> omega
   | false => refine ⟨?_, fun h0 => ?_, fun h0 => ?_, fun h0 h1 h2 h3 => ?_⟩ <;> (try simp only [Bool.false_eq_true, if_false] at *) <;> omega
 case le  =>
   refine ⟨⟨k1, k2, k3⟩, wf_at _ rfl (by simp), ?_⟩
   intro H' U' C' R' A' G' W' e1 e2 e3 e4 e5 e6 e7
   try simp only [hold_hd, usn_hd, ucn_hd, t2n_hd, a1n_hd, regn_hd, awn_hd, hold_uh, usn_uh, ucn_uh, t2n_uh, a1n_uh, regn_uh, awn_uh] at e1 e2 e3 e4 e5 e6 e7
   simp only [hold, usn, ucn, t2n, a1n, regn, awn] at e1 e2 e3 e4 e5 e6 e7 b1 b2 b3 b4 b5 b6 b7
   refine ⟨?_, fun h0 => ?_, fun h0 => ?_, fun h0 h1 h2 h3 => ?_⟩ <;> first | omega | (have := hcalm h0; omega) | (have := hstorm h0; omega) | (have := hcalm h0; have := hresp h0; omega)
 case la  =>
   refine ⟨⟨k1, k2, k3⟩, wf_at _ rfl (by simp), ?_⟩
   intro H' U' C' R' A' G' W' e1 e2 e3 e4 e5 e6 e7
   try simp only [hold_hd, usn_hd, ucn_hd, t2n_hd, a1n_hd, regn_hd, awn_hd, hold_uh, usn_uh, ucn_uh, t2n_uh, a1n_uh, regn_uh, awn_uh] at e1 e2 e3 e4 e5 e6 e7
   simp only [hold, usn, ucn, t2n, a1n, regn, awn] at e1 e2 e3 e4 e5 e6 e7 b1 b2 b3 b4 b5 b6 b7
   refine ⟨?_, fun h0 => ?_, fun h0 => ?_, fun h0 h1 h2 h3 => ?_⟩ <;> first | omega | (have := hcalm h0; omega) | (have := hstorm h0; omega) | (have := hcalm h0; have := hresp h0; omega)
 case ur  =>
   refine ⟨⟨k1, k2, k3⟩, wf_at _ rfl (by simp), ?_⟩
   intro H' U' C' R' A' G' W' e1 e2 e3 e4 e5 e6 e7
   try simp only [hold_hd, usn_hd, ucn_hd, t2n_hd, a1n_hd, regn_hd, awn_hd, hold_uh, usn_uh, ucn_uh, t2n_uh, a1n_uh, regn_uh, awn_uh] at e1 e2 e3 e4 e5 e6 e7
   simp only [hold, usn, ucn, t2n, a1n, regn, awn] at e1 e2 e3 e4 e5 e6 e7 b1 b2 b3 b4 b5 b6 b7
   refine ⟨?_, fun h0 => ?_, fun h0 => ?_, fun h0 h1 h2 h3 => ?_⟩ <;> first | omega | (have := hcalm h0; omega) | (have := hstorm h0; omega) | (have := hcalm h0; have := hresp h0; omega)
 case ud  =>
   refine ⟨⟨k1, k2, k3⟩, wf_at _ rfl (by simp), ?_⟩
   intro H' U' C' R' A' G' W' e1 e2 e3 e4 e5 e6 e7
   try simp only [hold_hd, usn_hd, ucn_hd, t2n_hd, a1n_hd, regn_hd, awn_hd, hold_uh, usn_uh, ucn_uh, t2n_uh, a1n_uh, regn_uh, awn_uh] at e1 e2 e3 e4 e5 e6 e7
   simp only [hold, usn, ucn, t2n, a1n, regn, awn] at e1 e2 e3 e4 e5 e6 e7 b1 b2 b3 b4 b5 b6 b7
   refine ⟨?_, fun h0 => ?_, fun h0 => ?_, fun h0 h1 h2 h3 => ?_⟩ <;> first | omega | (have := hcalm h0; omega) | (have := hstorm h0; omega) | (have := hcalm h0; have := hresp h0; omega)
 case u0 hs =>
   refine ⟨⟨by simp only; omega, k2, k3⟩, wf_uh ⟨by simp only; omega, k2, k3⟩, ?_⟩
   intro H' U' C' R' A' G' W' e1 e2 e3 e4 e5 e6 e7
   try simp only [hold_uh, usn_uh, ucn_uh, t2n_uh, a1n_uh, regn_uh, awn_uh] at e1 e2 e3 e4 e5 e6 e7
   simp only [hold, usn, ucn, t2n, a1n, regn, awn, one] at e1 e2 e3 e4 e5 e6 e7 b1 b2 b3 b4 b5 b6 b7
   have hc := hcalm hs
   refine ⟨by simp only; omega, fun h0 => by simp only at *; omega, fun h0 => by simp only at *; omega, fun h0 h1 h2 h3 => ?_⟩
   simp only at h0 h1 h2 h3
   rw [if_pos (by simp only [decide_eq_true_eq]; omega)] at e3
   omega
 case u0st hs =>
   refine ⟨⟨by simp only; omega, k2, k3⟩, wf_at _ rfl (by simp), ?_⟩
   intro H' U' C' R' A' G' W' e1 e2 e3 e4 e5 e6 e7
   try simp only [hold_hd, usn_hd, ucn_hd, t2n_hd, a1n_hd, regn_hd, awn_hd, hold_uh, usn_uh, ucn_uh, t2n_uh, a1n_uh, regn_uh, awn_uh] at e1 e2 e3 e4 e5 e6 e7
   simp only [hold, usn, ucn, t2n, a1n, regn, awn] at e1 e2 e3 e4 e5 e6 e7 b1 b2 b3 b4 b5 b6 b7
   have hc := hstorm hs
   refine ⟨by simp only; omega, fun h0 => by simp only at *; omega, fun h0 => by simp only at *; omega, fun h0 h1 h2 h3 => by simp only at *; omega⟩
 case uchit hp hm =>
   obtain ⟨o, hit, hsv, hsq, hc1, hr1, huc, haw⟩ := hwi
   obtain ⟨q1, q2, q3, q4⟩ := huc hp
   rw [← hm] at q1 q2 q3 q4
   refine ⟨⟨k1, by simp, k3⟩, wf_at _ rfl (by simp), ?_⟩
   intro H' U' C' R' A' G' W' e1 e2 e3 e4 e5 e6 e7
   try simp only [hold_hd, usn_hd, ucn_hd, t2n_hd, a1n_hd, regn_hd, awn_hd, hold_uh, usn_uh, ucn_uh, t2n_uh, a1n_uh, regn_uh, awn_uh] at e1 e2 e3 e4 e5 e6 e7
   simp only [hold, usn, ucn, t2n, a1n, regn, awn, hp] at e1 e2 e3 e4 e5 e6 e7 b1 b2 b3 b4 b5 b6 b7
   have hc := hcalm q3
   refine ⟨by simp only; omega, fun h0 => by simp only at *; omega, fun h0 => by simp only at *; omega, fun h0 h1 h2 h3 => by simp only at *; omega⟩
 case ucmiss hp hm =>
   refine ⟨⟨k1, k2, k3⟩, wf_at _ rfl (by simp), ?_⟩
   intro H' U' C' R' A' G' W' e1 e2 e3 e4 e5 e6 e7
   try simp only [hold_hd, usn_hd, ucn_hd, t2n_hd, a1n_hd, regn_hd, awn_hd, hold_uh, usn_uh, ucn_uh, t2n_uh, a1n_uh, regn_uh, awn_uh] at e1 e2 e3 e4 e5 e6 e7
   simp only [hold, usn, ucn, t2n, a1n, regn, awn, hp] at e1 e2 e3 e4 e5 e6 e7 b1 b2 b3 b4 b5 b6 b7
   refine ⟨?_, fun h0 => ?_, fun h0 => ?_, fun h0 h1 h2 h3 => ?_⟩ <;> first | omega | (have := hcalm h0; omega) | (have := hstorm h0; omega) | (have := hcalm h0; have := hresp h0; omega)
 case ux =>
   refine ⟨⟨k1, k2, k3⟩, wf_uh ⟨k1, k2, k3⟩, ?_⟩
   intro H' U' C' R' A' G' W' e1 e2 e3 e4 e5 e6 e7
   try simp only [hold_uh, usn_uh, ucn_uh, t2n_uh, a1n_uh, regn_uh, awn_uh] at e1 e2 e3 e4 e5 e6 e7
   simp only [hold, usn, ucn, t2n, a1n, regn, awn, one] at e1 e2 e3 e4 e5 e6 e7 b1 b2 b3 b4 b5 b6 b7
   refine ⟨by omega, fun h0 => by have := hcalm h0; omega, fun h0 => by have := hstorm h0; omega, fun h0 h1 h2 h3 => ?_⟩
   rw [if_pos (by simp only [decide_eq_true_eq]; omega)] at e3
   omega
 case us  =>
   refine ⟨⟨k1, k2, k3⟩, wf_at _ rfl (by simp), ?_⟩
   intro H' U' C' R' A' G' W' e1 e2 e3 e4 e5 e6 e7
   try simp only [hold_hd, usn_hd, ucn_hd, t2n_hd, a1n_hd, regn_hd, awn_hd, hold_uh, usn_uh, ucn_uh, t2n_uh, a1n_uh, regn_uh, awn_uh] at e1 e2 e3 e4 e5 e6 e7
   simp only [hold, usn, ucn, t2n, a1n, regn, awn] at e1 e2 e3 e4 e5 e6 e7 b1 b2 b3 b4 b5 b6 b7
   refine ⟨?_, fun h0 => ?_, fun h0 => ?_, fun h0 h1 h2 h3 => ?_⟩ <;> first | omega | (have := hcalm h0; omega) | (have := hstorm h0; omega) | (have := hcalm h0; have := hresp h0; omega)
 case ue  =>
   refine ⟨⟨k1, k2, k3⟩, wf_at _ rfl (by simp), ?_⟩
   intro H' U' C' R' A' G' W' e1 e2 e3 e4 e5 e6 e7
   try simp only [hold_hd, usn_hd, ucn_hd, t2n_hd, a1n_hd, regn_hd, awn_hd, hold_uh, usn_uh, ucn_uh, t2n_uh, a1n_uh, regn_uh, awn_uh] at e1 e2 e3 e4 e5 e6 e7
   simp only [hold, usn, ucn, t2n, a1n, regn, awn] at e1 e2 e3 e4 e5 e6 e7 b1 b2 b3 b4 b5 b6 b7
   refine ⟨?_, fun h0 => ?_, fun h0 => ?_, fun h0 h1 h2 h3 => ?_⟩ <;> first | omega | (have := hcalm h0; omega) | (have := hstorm h0; omega) | (have := hcalm h0; have := hresp h0; omega)
def wA (T : Th) : Nat := match T.pc with
 | .ld | .l0 => 9
 | .r0 => 8
 | .sq | .c1 | .r1 | .c2 | .r3 => if T.aw then 7 else 8
 | .t2 | .r2 => 7
 | .a1 | .t1 | .s1 => 6
 | .le | .la | .ur | .ud | .u0 => 5
 | .uc | .ux => 4
 | .us => 3
 | .ue | .out => 0
def stl (m : Mx) (T : Th) : Nat := if T.old = m then 0 else 1
def rk (m : Mx) (T : Th) : Nat := match T.pc with
 | .ld => 3
 | .l0 => 2
 | .r0 => 100
 | .sq => 22 + 4 * (4 - T.it) + 40 * stl m T
 | .c1 => 21 + 4 * (4 - T.it) + 40 * stl m T
 | .r1 => 20 + 4 * (4 - T.it)
 | .c2 => 10 + 40 * stl m T
 | .r3 => 45
 | .t1 => 5
 | .s1 => 4
 | .t2 => 44
 | .r2 => 43
 | .a1 => 0
 | .le => 9
 | .la => 8
 | .ur => 7
 | .ud => 6
 | .u0 => 5
 | .uc => 1 + 2 * stl m T
 | .ux => 2
 | .us => 1
 | .ue => 1
 | .out => 0
theorem rk_le (m : Mx) (T : Th) : rk m T ≤ 100 := by
 have : stl m T ≤ 1 := by unfold stl; split <;> omega
 unfold rk
 split <;> omega
theorem rk_hd {T : Th} : rk T.old (hd T) ≤ 22 + 4 * (4 - T.it) := by
 rcases hd_or T with ⟨_, _, e⟩ | ⟨_, e⟩ <;> rw [e] <;> simp [rk, stl] <;> omega
theorem wA_hd {T : Th} : wA (hd T) = if T.aw then 7 else 8 := by
 rcases hd_or T with ⟨_, _, e⟩ | ⟨_, e⟩ <;> rw [e] <;> rfl
theorem wA_uh {o : Mx} : wA (uh o) ≤ 4 := by rcases uh_or o with ⟨_, e⟩ | ⟨_, e⟩ <;> rw [e] <;> simp [wA]
theorem Mv.falls {T T' : Th} {m m' : Mx} {ms ms' : Nat} (h : Mv T m ms T' m' ms') (hw : T.wf) : wA T' + 2 * ms' < wA T + 2 * ms ∨ (wA T' + 2 * ms' = wA T + 2 * ms ∧ m' = m ∧ rk m T' < rk m T) := by
 obtain ⟨o, hit, hsv, hsq, hc1, hr1, huc, haw⟩ := hw
 have eqm : ∀ {a b : Mx}, a = b → stl b { pc := .ld, old := a } = 0 := fun e => by simp [stl, e]
 cases h with
 | ld => right; refine ⟨rfl, rfl, by simp [rk]⟩
 | l0hit _ => left; simp [wA]
 | l0miss _ => left; simp [wA]
 | r0 =>
   refine .inr ⟨by rw [wA_hd]; rfl, rfl, ?_⟩
   have := rk_hd (T := { pc := .r0, old := m })
   simp only at this
   show _ < 100
   omega
 | sqno hp => refine .inr ⟨by simp [wA, hp], rfl, ?_⟩; simp only [rk, hp, stl]; split <;> omega
 | sqc1 hp h1 h2 => refine .inr ⟨by simp [wA, hp], rfl, ?_⟩; simp only [rk, hp, stl]; split <;> omega
 | sqr1 hp h1 h2 => refine .inr ⟨by simp [wA, hp], rfl, ?_⟩; simp only [rk, hp]; omega
 | c1hit hp _ => left; have := (hc1 hp).1; simp [wA, hp, this]
 | c1miss hp _ => refine .inr ⟨by simp [wA, hp], rfl, ?_⟩; simp only [rk, hp]; omega
 | r1 hp =>
   refine .inr ⟨by rw [wA_hd]; simp [wA, hp], rfl, ?_⟩
   have := rk_hd (T := { T with old := m, it := T.it + 1 })
   have := hr1 hp
   simp only at *
   simp only [rk, hp] at *
   omega
 | c2own hp h1 h2 hm =>
   left
   simp only [wA, hp]
   split <;> omega
 | c2t1 hp h1 hm => left; simp only [wA, hp]; split <;> omega
 | c2s1 hp h1 hm => left; simp only [wA, hp]; split <;> omega
 | c2miss hp hm =>
   refine .inr ⟨by simp [wA, hp], rfl, ?_⟩
   have : stl m T = 1 := by unfold stl; rw [if_neg (fun e => hm e.symm)]
   simp only [rk, hp, this]; omega
 | t1 hp => refine .inr ⟨by simp [wA, hp], rfl, ?_⟩; simp [rk, hp]
 | s1 hp => left; simp only [wA, hp]; omega
 | t2 b hp => refine .inr ⟨by simp [wA, hp], rfl, ?_⟩; simp [rk, hp]
 | r2aw hp hs =>
   refine .inr ⟨by rw [wA_hd]; simp [wA, hp], rfl, ?_⟩
   have := rk_hd (T := { T with old := m, aw := true, it := 0 })
   simp only at *
   simp only [rk, hp] at *
   omega
 | r2st hp hs => left; simp [wA, hp]
 | a1 hp => left; simp [wA, hp]
 | r3 hp =>
   refine .inr ⟨by rw [wA_hd]; simp [wA, hp], rfl, ?_⟩
   have := rk_hd (T := { T with old := m })
   simp only at *
   simp only [rk, hp] at *
   omega
 | le => refine .inr ⟨rfl, rfl, by simp [rk]⟩
 | la => refine .inr ⟨rfl, rfl, by simp [rk]⟩
 | ur => refine .inr ⟨rfl, rfl, by simp [rk]⟩
 | ud => refine .inr ⟨rfl, rfl, by simp [rk]⟩
 | u0 hs => left; have := wA_uh (o := { m with l := m.l - 1 }); simp only [wA] at *; omega
 | u0st hs => left; simp [wA]
 | uchit hp hm => left; simp [wA, hp]
 | ucmiss hp hm =>
   refine .inr ⟨by simp [wA, hp], rfl, ?_⟩
   have : stl m T = 1 := by unfold stl; rw [if_neg (fun e => hm e.symm)]
   simp only [rk, hp, this]; omega
 | ux =>
   rcases uh_or m with ⟨_, e⟩ | ⟨_, e⟩ <;> rw [e]
   · left; simp [wA]
   · refine .inr ⟨rfl, rfl, ?_⟩; simp [rk, stl]
 | us => left; simp only [wA]; omega
 | ue => refine .inr ⟨rfl, rfl, by simp [rk]⟩
section
variable {n : Nat} {D : Nat → Th} {m : Mx} {ms : Nat} {i : Nat}
theorem sum0 {f : Nat → Nat} : ∀ {n : Nat}, (∀ i, i < n → f i = 0) → sumTo n f = 0
 | 0, _ => rfl
 | n + 1, h => by rw [sumTo, sum0 fun i hi => h i (by omega), h n (by omega)]
theorem sum_le {f : Nat → Nat} : ∀ {n : Nat}, (∀ i, i < n → f i ≤ 1) → sumTo n f ≤ n
 | 0, _ => Nat.le_refl _
 | n + 1, h => by
   rw [sumTo]
   have := sum_le (f := f) (n := n) fun i hi => h i (by omega)
   have := h n (by omega)
   omega
theorem regn_le (T : Th) : regn T ≤ 1 := by unfold regn; split <;> omega
theorem AInv.msLe (h : AInv n D m ms) : ms ≤ 1 := by
 have hk := h.ok
 rcases (show m.s = 0 ∨ m.s = 1 by have := hk.2.2; omega) with hs | hs
 · have := (h.calm hs).1; have := hk.2.1; omega
 · have := (h.storm hs).2.2.1; omega
theorem AInv.cLe (h : AInv n D m ms) : m.c ≤ n + 1 := by
 have hk := h.ok
 have hg : (sumTo n fun i => regn (D i)) ≤ n := sum_le fun i _ => regn_le _
 rcases (show m.s = 0 ∨ m.s = 1 by have := hk.2.2; omega) with hs | hs
 · have := (h.calm hs).2.1; omega
 · have := h.storm hs; omega
theorem AInv.holds (h : AInv n D m ms) (hi : i < n) (hp : hold (D i) = 1) : m.l = 1 := by
 have := le_sumTo (f := fun a => hold (D a)) hi
 have := h.lock
 have := h.ok.1
 omega
theorem AInv.atR2 (h : AInv n D m ms) (hi : i < n) (hp : (D i).pc = .r2) (hs : m.s = 1) : m.l = 0 ∧ m.k = 0 ∧ m.c ≠ 0 := by
 have hb := le_sumTo (f := fun a => t2n (D a)) hi
 have : t2n (D i) = 1 := by simp only [t2n, hp]
 have := h.storm hs
 omega
theorem AInv.atA1 (h : AInv n D m ms) (hi : i < n) (hp : (D i).pc = .a1) : m.l = 0 ∧ m.k = 0 ∧ m.c ≠ 0 ∧ m.s = 1 := by
 have hb := le_sumTo (f := fun a => a1n (D a)) hi
 have ha : a1n (D i) = 1 := by simp only [a1n, hp]
 have hk := h.ok
 rcases (show m.s = 0 ∨ m.s = 1 by have := hk.2.2; omega) with hs | hs
 · have := (h.calm hs).2.2; omega
 · have := h.storm hs; omega
theorem AInv.atUs (h : AInv n D m ms) (hi : i < n) (hp : (D i).pc = .us) : ms = 0 := by
 have hb := le_sumTo (f := fun a => usn (D a)) hi
 have ha : usn (D i) = 1 := by simp only [usn, hp]
 have hk := h.ok
 rcases (show m.s = 0 ∨ m.s = 1 by have := hk.2.2; omega) with hs | hs
 · have := (h.calm hs).1; have := hk.2.1; omega
 · have := h.storm hs; omega
theorem AInv.awk (h : AInv n D m ms) (hi : i < n) (hp : inLoop (D i).pc = true) (haw : (D i).aw = true) : m.k = 1 := by
 have hb := le_sumTo (f := fun a => awn (D a)) hi
 have ha : awn (D i) = 1 := by
   unfold awn
   cases hpc : (D i).pc <;> rw [hpc] at hp <;> simp [inLoop] at hp <;> simp [haw, one]
 have hk := h.ok
 rcases (show m.s = 0 ∨ m.s = 1 by have := hk.2.2; omega) with hs | hs
 · have := (h.calm hs).1; have := hk.2.1; omega
 · have := (h.storm hs).2.1; omega
theorem AInv.r2k (h : AInv n D m ms) (hi : i < n) (hp : (D i).pc = .r2) (hs : m.s = 0) : m.k = 1 := by
 have hb := le_sumTo (f := fun a => t2n (D a)) hi
 have : t2n (D i) = 1 := by simp only [t2n, hp]
 have := (h.calm hs).1
 have := h.ok.2.1
 omega
theorem AInv.live (h : AInv n D m 0) (all : ∀ i, i < n → (D i).pc = .s1 ∨ (D i).pc = .out) : ∀ i, i < n → (D i).pc = .out := by
 intro i hi
 refine (all i hi).resolve_left fun hp => ?_
 have z : ∀ f : Th → Nat, (∀ T : Th, T.pc = .s1 ∨ T.pc = .out → f T = 0) → (sumTo n fun a => f (D a)) = 0 := fun f hf => sum0 fun a ha => hf _ (all a ha)
 have z1 := z hold (fun T h => by rcases h with h | h <;> simp [hold, h])
 have z2 := z usn (fun T h => by rcases h with h | h <;> simp [usn, h])
 have z3 := z ucn (fun T h => by rcases h with h | h <;> simp [ucn, h])
 have z4 := z t2n (fun T h => by rcases h with h | h <;> simp [t2n, h])
 have z5 := z a1n (fun T h => by rcases h with h | h <;> simp [a1n, h])
 have z7 := z awn (fun T h => by rcases h with h | h <;> simp [awn, h])
 have hb := le_sumTo (f := fun a => regn (D a)) hi
 have hr : regn (D i) = 1 := by simp only [regn, hp]
 have hl := h.lock
 rcases (show m.s = 0 ∨ m.s = 1 by have := h.ok.2.2; omega) with hs | hs
 · have hc := h.calm hs
   exact h.resp hs (by omega) (by omega) (by omega) z3
 · have := h.storm hs
   omega
end
end Go.Proofs.Ytcoppnbjpncdcaa.Q
end
section
set_option linter.unusedVariables false
namespace Go.Proofs.Ytcoppnbjpncdcaa.Q
open Go Go.Conc
open Go.ConcR (WgAt wgBlock stA smA rd wr mk DC0)
open Go.ConcM (OsLater)
structure Cfg where
 F : Nat
 G : Nat
 H : Nat
 Wg : Nat
 tF : TypeId
 tG : TypeId
 tH : TypeId
 tW : TypeId
 gv : Value
 hv : Value
 n : Nat
structure Cfg.Apart (C : Cfg) : Prop where
 fg : C.F ≠ C.G
 fh : C.F ≠ C.H
 fw : C.F ≠ C.Wg
 gh : C.G ≠ C.H
 gw : C.G ≠ C.Wg
 hw : C.H ≠ C.Wg
section
variable (C : Cfg)
abbrev muA : Addr := ⟨C.F, 0, none⟩
abbrev msA : Addr := ⟨C.F, 1, none⟩
def muBlock (m : Mx) (ms : Nat) : Obj := .cells #[.int .i32 m.enc, .int .u32 ms, C.gv, C.hv] C.tF
def MuAt (w : World) (m : Mx) (ms : Nat) : Prop := w.heap[C.F]? = some (muBlock C m ms)
def RowAt (b : Nat) (t : TypeId) (k : Nat) (w : World) : Prop := ∃ cs : Array Value, w.heap[b]? = some (.cells cs t) ∧ cs.size = k
structure Live (w : World) : Prop where
 mu : ∃ m ms, MuAt C w m ms
 wg : ∃ st sm, WgAt C.tW C.Wg w st sm
 gg : RowAt C.G C.tG (2 * C.n) w
 hh : RowAt C.H C.tH C.n w
def OwnC (i : Nat) (a : Addr) : Prop := a.spot = none ∧ ((a.block = C.G ∧ (a.off = 2 * i ∨ a.off = 2 * i + 1)) ∨ (a.block = C.H ∧ a.off = i))
structure Ry (me : Nat → Prop) (Kb : Nat → Prop) (w w₁ : World) : Prop where
 size : w.heap.size ≤ w₁.heap.size
 low : ∀ b, Kb b → b < w.heap.size → w₁.heap[b]? = w.heap[b]?
 live : Live C w → Live C w₁
 own : ∀ i a, me i → OwnC C i a → w₁.cell? a = w.cell? a
structure Wr (i : Nat) (w w' : World) : Prop where
 tape : w'.tape = w.tape
 os : w'.os = w.os
 out : w'.output = w.output
 size : w'.heap.size = w.heap.size
 block : ∀ b : Nat, b ≠ C.G → b ≠ C.H → w'.heap[b]? = w.heap[b]?
 live : Live C w → Live C w'
 cells : ∀ i' a, i' ≠ i → OwnC C i' a → w'.cell? a = w.cell? a
def EvK (Kb : Nat → Prop) (i N : Nat) (e : Event) : Prop :=
 ∃ a wr, e = ⟨.cell a, wr, false⟩ ∧ a.block < N ∧ (OwnC C i a ∨ (wr = false ∧ (Kb a.block ∨ (a.block = C.F ∧ 2 ≤ a.off))))
def Dk (Kb : Nat → Prop) (i : Nat) (w w' : World) (es : Array Event) : Prop := Wr C i w w' ∧ ∀ e ∈ es, EvK C Kb i w'.heap.size e
structure LockEff (w w' : World) : Prop where
 tape : w'.tape = w.tape
 out : w'.output = w.output
 size : w'.heap.size = w.heap.size
 os : OsLater w.os w'.os
 block : ∀ b : Nat, b ≠ C.F → w'.heap[b]? = w.heap[b]?
def EvLock (T : Th) (es : Array Event) : Prop :=
 match T.pc with
 | .ld | .ud => es = #[mk .disable]
 | .le | .ue => es = #[mk .enable]
 | .la => es = #[mk (.acquire (muA C))]
 | .ur => es = #[mk (.releaseMerge (muA C))]
 | .s1 | .us => es = semEvents (msA C)
 | _ => ∀ e ∈ es, ∃ x, e = ⟨.cell (muA C), x, true⟩
end
structure Fits (T : Th) (m : Mx) (ms : Nat) : Prop where
 ok : m.ok
 wf : T.wf
 c : m.c ≤ 10
 one : ms ≤ 1
 hold : T.pc = .u0 → m.l = 1
 r2 : T.pc = .r2 → m.s = 1 → m.l = 0 ∧ m.k = 0 ∧ m.c ≠ 0
 a1 : T.pc = .a1 → m.l = 0 ∧ m.k = 0 ∧ m.c ≠ 0 ∧ m.s = 1
 us : T.pc = .us → ms = 0
 awk : inLoop T.pc = true → T.aw = true → m.k = 1
 r2k : T.pc = .r2 → m.s = 0 → m.k = 1
section
variable (C : Cfg) (P : Program) (Kb : Nat → Prop) (i : Nat) (Fin : Goroutine → World → Prop)
def Stp (Nx : Th → Goroutine → World → Prop) (T : Th) (g : Goroutine) (w : World) : Prop :=
 g.status = .running ∧ g.offers = none ∧ (T.pc = .us → mayWake P g = true) ∧
 ∀ m ms, MuAt C w m ms → Fits T m ms →
   (T.pc = .s1 → ms = 0 → stepG P false g w = .go { g with status := .blocked } w #[]) ∧
   (¬ (T.pc = .s1 ∧ ms = 0) → ∃ T' m' ms' g' w' es, Mv T m ms T' m' ms' ∧ stepG P false g w = .go g' w' es ∧ MuAt C w' m' ms' ∧ LockEff C w w' ∧ EvLock C T es ∧
     (T'.pc = .out → Fin g' w') ∧ (T'.pc ≠ .out → Goes P false (Ry C (· = i) Kb) (Dk C Kb i) (Nx T') 200 g' w'))
def AtD : Nat → Th → Goroutine → World → Prop
 | 0, _, _, _ => True
 | k + 1, T, g, w => Stp C P Kb i Fin (AtD k) T g w
def AtS (T : Th) (g : Goroutine) (w : World) : Prop := ∀ k, AtD C P Kb i Fin k T g w
end
section
variable {C : Cfg} {w w₁ w₂ : World} {m m' : Mx} {ms ms' : Nat}
theorem Mx.enc_inj {a b : Mx} (ha : a.ok) (hb : b.ok) (h : a.enc = b.enc) : a = b := by
 obtain ⟨a1, a2, a3, a4⟩ := a
 obtain ⟨b1, b2, b3, b4⟩ := b
 simp only [Mx.ok, Mx.enc] at *
 obtain rfl : a1 = b1 := by omega
 obtain rfl : a2 = b2 := by omega
 obtain rfl : a3 = b3 := by omega
 obtain rfl : a4 = b4 := by omega
 rfl
theorem MuAt.cellSt (h : MuAt C w m ms) : w.cell? (muA C) = some (.int .i32 m.enc) := by unfold MuAt muBlock at h; simp [World.cell?, h]
theorem MuAt.cellSm (h : MuAt C w m ms) : w.cell? (msA C) = some (.int .u32 ms) := by unfold MuAt muBlock at h; simp [World.cell?, h]
theorem MuAt.cellG (h : MuAt C w m ms) : w.cell? ⟨C.F, 2, none⟩ = some C.gv := by unfold MuAt muBlock at h; simp [World.cell?, h]
theorem MuAt.cellH (h : MuAt C w m ms) : w.cell? ⟨C.F, 3, none⟩ = some C.hv := by unfold MuAt muBlock at h; simp [World.cell?, h]
theorem MuAt.thaw (h : MuAt C w m ms) (off : Nat) : w.frozen? ⟨C.F, off, none⟩ = false := by unfold MuAt muBlock at h; simp [World.frozen?, h]
theorem heap_set (w : World) (a : Addr) (v : Value) (b : Nat) (h : b ≠ a.block) : (w.setCell a v).heap[b]? = w.heap[b]? := by
 unfold World.setCell
 simp [Array.getElem?_modify, Ne.symm h]
theorem heap_at (w : World) {b off : Nat} (v : Value) {c : Array Value} {t : TypeId} {fr : Nat × Nat} (h : w.heap[b]? = some (.cells c t fr)) : (w.setCell ⟨b, off, none⟩ v).heap[b]? = some (.cells (c.setIfInBounds off v) t fr) := by
 unfold World.setCell
 simp [Array.getElem?_modify, h]
theorem MuAt.setMu (h : MuAt C w m ms) (m' : Mx) : MuAt C (w.setCell (muA C) (.int .i32 m'.enc)) m' ms := by
 unfold MuAt at *
 rw [heap_at w _ h]
 rfl
theorem MuAt.setMs (h : MuAt C w m ms) (ms' : Nat) : MuAt C (w.setCell (msA C) (.int .u32 ms')) m ms' := by
 unfold MuAt at *
 rw [heap_at w _ h]
 rfl
theorem LockEff.refl (w : World) : LockEff C w w := ⟨rfl, rfl, rfl, .refl _, fun _ _ => rfl⟩
theorem LockEff.set (w : World) (off : Nat) (v : Value) : LockEff C w (w.setCell ⟨C.F, off, none⟩ v) :=
 ⟨rfl, rfl, by simp [World.setCell], .refl _, fun b hb => heap_set w _ v b hb⟩
theorem Live.of_eff (A : C.Apart) (h : Live C w) (e : LockEff C w w₁) (hm : MuAt C w₁ m ms) : Live C w₁ := by
 obtain ⟨_, ⟨st, sm, hw⟩, ⟨cs, hg, hgs⟩, ⟨ds, hh, hhs⟩⟩ := h
 exact ⟨⟨m, ms, hm⟩, ⟨st, sm, (e.block _ (Ne.symm A.fw)).trans hw⟩, ⟨cs, (e.block _ (Ne.symm A.fg)).trans hg, hgs⟩, ⟨ds, (e.block _ (Ne.symm A.fh)).trans hh, hhs⟩⟩
theorem cell_of_block' {a : Addr} (h : w₁.heap[a.block]? = w.heap[a.block]?) : w₁.cell? a = w.cell? a := by unfold World.cell?; rw [h]
theorem OwnC.blk {i : Nat} {a : Addr} (h : OwnC C i a) : a.block = C.G ∨ a.block = C.H := h.2.elim (fun x => .inl x.1) fun x => .inr x.1
theorem Ry.of_eff (A : C.Apart) {me Kb : Nat → Prop} (hF : ¬ Kb C.F) (e : LockEff C w w₁) (hm : MuAt C w₁ m ms) : Ry C me Kb w w₁ :=
 ⟨Nat.le_of_eq e.size.symm, fun b hb _ => e.block b fun x => hF (x ▸ hb), fun h => h.of_eff A e hm, fun i a _ ha => cell_of_block' (e.block _ (ha.blk.elim (fun x => x ▸ Ne.symm A.fg) fun x => x ▸ Ne.symm A.fh))⟩
theorem Ry.refl {me Kb : Nat → Prop} (w : World) : Ry C me Kb w w := ⟨Nat.le_refl _, fun _ _ _ => rfl, id, fun _ _ _ _ => rfl⟩
theorem Ry.trans {me Kb : Nat → Prop} (h : Ry C me Kb w w₁) (k : Ry C me Kb w₁ w₂) : Ry C me Kb w w₂ :=
 ⟨Nat.le_trans h.size k.size, fun b hb hl => (k.low b hb (Nat.lt_of_lt_of_le hl h.size)).trans (h.low b hb hl), fun l => k.live (h.live l), fun i a hi ha => (k.own i a hi ha).trans (h.own i a hi ha)⟩
theorem Ry.at {me Kb : Nat → Prop} (w : World) (d : Nat) : Ry C me Kb w (w.at d) :=
 ⟨Nat.le_refl _, fun _ _ _ => rfl, fun ⟨a, b, c, d⟩ => ⟨a, b, c, d⟩, fun _ _ _ _ => rfl⟩
end
section
variable {P : Program} {main : Bool} {R : World → World → Prop} {D : World → World → Array Event → Prop}
theorem goes_stop {S S' : Goroutine → World → Prop} (hS : ∀ g w, S g w → S' g w) : ∀ {n : Nat} {g : Goroutine} {w : World}, Goes P main R D S n g w → Goes P main R D S' n g w
 | 0, _, _, h => fun w₁ h₁ => hS _ _ (h w₁ h₁)
 | n + 1, g, w, h => by
   rcases h with h | ⟨hs, h⟩
   · exact .inl fun w₁ h₁ => hS _ _ (h w₁ h₁)
   · refine .inr ⟨hs, fun w₁ h₁ => ?_⟩
     have := h w₁ h₁
     cases hgo : stepG P main g w₁ with
     | go g' w' es => rw [hgo] at this; exact ⟨this.1, goes_stop hS this.2⟩
     | _ => rw [hgo] at this; exact this.elim
theorem goes_all {S : Nat → Goroutine → World → Prop} (hS : ∀ k g w, S (k + 1) g w → S k g w) : ∀ {n : Nat} {g : Goroutine} {w : World}, (∀ k, Goes P main R D (S k) n g w) → Goes P main R D (fun g w => ∀ k, S k g w) n g w
 | 0, _, _, h => fun w₁ h₁ k => h k w₁ h₁
 | n + 1, g, w, h => by
   have down : ∀ {k j : Nat} {g w}, S (k + j) g w → S k g w := by
     intro k j g w
     induction j with
     | zero => exact id
     | succ j ih => exact fun x => ih (hS _ g w x)
   by_cases hall : ∀ k, ∀ w₁, R w w₁ → S k g w₁
   · exact .inl fun w₁ h₁ k => hall k w₁ h₁
   · obtain ⟨k0, hk0⟩ := Classical.not_forall.1 hall
     have hr : ∀ j, g.status = .running ∧ ∀ w₁, R w w₁ → (stepG P main g w₁).goes fun g' w' es => D w₁ w' es ∧ Goes P main R D (S (k0 + j)) n g' w' := fun j =>
       (h (k0 + j)).resolve_left fun x => hk0 fun w₁ h₁ => down (x w₁ h₁)
     refine .inr ⟨(hr 0).1, fun w₁ h₁ => ?_⟩
     cases hgo : stepG P main g w₁ with
     | go g' w' es =>
       have h2 : ∀ j, D w₁ w' es ∧ Goes P main R D (S (k0 + j)) n g' w' := fun j => by
         have := (hr j).2 w₁ h₁
         rw [hgo] at this
         exact this
       refine ⟨(h2 0).1, goes_all hS fun k => ?_⟩
       refine goes_stop (fun g w x => ?_) (h2 k).2
       rw [Nat.add_comm] at x
       exact down x
     | _ =>
       have := (hr 0).2 w₁ h₁
       rw [hgo] at this
       exact this.elim
theorem pigeon {α : Type} {Φ : Nat → α → Prop} (hΦ : ∀ k x, Φ (k + 1) x → Φ k x) : ∀ (L : List α), (∀ k, ∃ x ∈ L, Φ k x) → ∃ x ∈ L, ∀ k, Φ k x
 | [], h => by obtain ⟨x, hx, _⟩ := h 0; cases hx
 | a :: L, h => by
   have down : ∀ {k j : Nat} {x}, Φ (k + j) x → Φ k x := by
     intro k j x
     induction j with
     | zero => exact id
     | succ j ih => exact fun y => ih (hΦ _ x y)
   by_cases ha : ∀ k, Φ k a
   · exact ⟨a, List.mem_cons_self .., ha⟩
   · obtain ⟨k0, hk0⟩ := Classical.not_forall.1 ha
     obtain ⟨x, hx, hall⟩ := pigeon hΦ L fun k => by
       obtain ⟨x, hx, h1⟩ := h (k0 + k)
       rcases List.mem_cons.1 hx with rfl | hx
       · exact absurd (down h1) hk0
       · refine ⟨x, hx, ?_⟩
         rw [Nat.add_comm] at h1
         exact down h1
     exact ⟨x, List.mem_cons_of_mem _ hx, hall⟩
end
def succs (T : Th) (m : Mx) (ms : Nat) : List (Th × Mx × Nat) :=
 [(at_ .l0, m, ms), (at_ .le, ⟨1, 0, 0, 0⟩, ms), (at_ .r0, m, ms), (hd { pc := .r0, old := m }, m, ms), ({ T with pc := .c2 }, m, ms), ({ T with pc := .c1 }, m, ms), ({ T with pc := .r1 }, m, ms), ({ T with pc := .r1, aw := true }, { m with k := 1 }, ms),
  (hd { T with old := m, it := T.it + 1 }, m, ms), (at_ .le, nw T, ms), ({ T with pc := .t1 }, nw T, ms), ({ T with pc := .s1 }, nw T, ms), ({ T with pc := .r3 }, m, ms), ({ T with pc := .s1 }, m, ms), ({ T with pc := .t2 }, m, ms - 1),
  ({ T with pc := .r2, sv := T.sv || true }, m, ms), ({ T with pc := .r2, sv := T.sv || false }, m, ms), (hd { T with old := m, aw := true, it := 0 }, m, ms), ({ T with pc := .a1, old := m, cl := (!T.sv) || m.c == 1 }, m, ms),
  (at_ .le, ⟨m.l + 1, m.k, if T.cl then m.s - 1 else m.s, m.c - 1⟩, ms), (hd { T with old := m }, m, ms), (at_ .la, m, ms), (at_ .ur, m, ms), (at_ .ud, m, ms), (at_ .u0, m, ms), (uh { m with l := m.l - 1 }, { m with l := m.l - 1 }, ms),
  (at_ .us, { m with l := m.l - 1 }, ms), (at_ .us, { m with k := 1, c := m.c - 1 }, ms), (at_ .ux, m, ms), (uh m, m, ms), (at_ .ue, m, ms + 1), (at_ .out, m, ms)]
theorem Mv.mem {T T' : Th} {m m' : Mx} {ms ms' : Nat} (h : Mv T m ms T' m' ms') : (T', m', ms') ∈ succs T m ms := by
 cases h
 case t2 b _ => cases b <;> simp [succs]
 all_goals simp [succs]
section
variable {C : Cfg} {P : Program} {Kb : Nat → Prop} {i : Nat} {Fin : Goroutine → World → Prop}
theorem Stp.mono {Nx Nx' : Th → Goroutine → World → Prop} (hN : ∀ T g w, Nx T g w → Nx' T g w) {T : Th} {g : Goroutine} {w : World} (h : Stp C P Kb i Fin Nx T g w) : Stp C P Kb i Fin Nx' T g w := by
 obtain ⟨h1, h2, h3, h4⟩ := h
 refine ⟨h1, h2, h3, fun m ms hm hf => ⟨(h4 m ms hm hf).1, fun hn => ?_⟩⟩
 obtain ⟨T', m', ms', g', w', es, e1, e2, e3, e4, e5, e6, e7⟩ := (h4 m ms hm hf).2 hn
 exact ⟨T', m', ms', g', w', es, e1, e2, e3, e4, e5, e6, fun x => goes_stop (hN T') (e7 x)⟩
theorem AtD.down : ∀ (k : Nat) (T : Th) (g : Goroutine) (w : World), AtD C P Kb i Fin (k + 1) T g w → AtD C P Kb i Fin k T g w
 | 0, _, _, _, _ => trivial
 | k + 1, _, _, _, h => Stp.mono (AtD.down k) h
theorem AtS.unfold {T : Th} {g : Goroutine} {w : World} (h : AtS C P Kb i Fin T g w) : Stp C P Kb i Fin (AtS C P Kb i Fin) T g w := by
 have h1 : Stp C P Kb i Fin (AtD C P Kb i Fin 0) T g w := h 1
 refine ⟨h1.1, h1.2.1, h1.2.2.1, fun m ms hm hf => ⟨(h1.2.2.2 m ms hm hf).1, fun hn => ?_⟩⟩
 obtain ⟨_, _, _, g', w', es, _, hgo, _, heff, hev, _, _⟩ := (h1.2.2.2 m ms hm hf).2 hn
 obtain ⟨⟨T', m', ms'⟩, _, hall⟩ := pigeon (Φ := fun k (x : Th × Mx × Nat) => Mv T m ms x.1 x.2.1 x.2.2 ∧ MuAt C w' x.2.1 x.2.2 ∧ (x.1.pc = .out → Fin g' w') ∧ (x.1.pc ≠ .out → Goes P false (Ry C (· = i) Kb) (Dk C Kb i) (AtD C P Kb i Fin k x.1) 200 g' w'))
   (fun k x hx => ⟨hx.1, hx.2.1, hx.2.2.1, fun y => goes_stop (AtD.down k x.1) (hx.2.2.2 y)⟩) (succs T m ms) (fun k => by
     have hk : Stp C P Kb i Fin (AtD C P Kb i Fin k) T g w := h (k + 1)
     obtain ⟨T', m', ms', g'', w'', es', e1, e2, e3, e4, e5, e6, e7⟩ := (hk.2.2.2 m ms hm hf).2 hn
     rw [hgo] at e2
     simp only [GStep.go.injEq] at e2
     obtain ⟨rfl, rfl, rfl⟩ := e2
     exact ⟨(T', m', ms'), e1.mem, e1, e3, e6, e7⟩)
 exact ⟨T', m', ms', g', w', es, (hall 0).1, hgo, (hall 0).2.1, heff, hev, (hall 0).2.2.1, fun x => goes_all (AtD.down · T') fun k => (hall k).2.2.2 x⟩
end
end Go.Proofs.Ytcoppnbjpncdcaa.Q
end
section
set_option linter.unusedVariables false
namespace Go.Proofs.Ytcoppnbjpncdcaa.Q
open Go Go.Conc
def intBin (op : BinOp) (k : IntKind) (a b : Int) : Option Value :=
 match op with
 | .add => some (.int k (k.wrap (a + b)))
 | .sub => some (.int k (k.wrap (a - b)))
 | .and | .or | .xor | .andNot => some (.int k (bits op k a b))
 | .eql => some (.bool (a == b))
 | .neq => some (.bool (a != b))
 | .lss => some (.bool (a < b))
 | .leq => some (.bool (a ≤ b))
 | .gtr => some (.bool (a > b))
 | .geq => some (.bool (a ≥ b))
 | _ => none
def evPure (off : TypeId → Nat → Option Nat) (ρ : Operand → Value) : Op → Option Value
 | .move x | .assign x => some (ρ x)
 | .pick c a b => match ρ c with
   | .bool t => some (if t then ρ a else ρ b)
   | _ => none
 | .unOp .not _ x => match ρ x with
   | .bool t => some (.bool (!t))
   | _ => none
 | .nilCheck x => match ρ x with
   | .pointer (some a) => some (.pointer (some a))
   | _ => none
 | .fieldAddr s x f => match ρ x, off s f with
   | .pointer (some a), some o => some (.pointer (some (a.add o)))
   | _, _ => none
 | .binOp op _ x y _ => match ρ x, ρ y with
   | .int k a, .int k' b => if op = .shr then (if b < 0 then none else some (.int k (a.fdiv (2 ^ (min b.toNat k.bits))))) else if k = k' then intBin op k a b else none
   | _, _ => none
 | _ => none
def OffOk (P : Program) (off : TypeId → Nat → Option Nat) : Prop :=
 ∀ s f o, off s f = some o → ∃ fs fd t, P.underlying s = some (.struct fs) ∧ fs[f]? = some fd ∧ fd.offset = o ∧ P.info? fd.type = some t ∧ t.size ≠ 0
theorem evPure_sound {P : Program} {off : TypeId → Nat → Option Nat} (hoff : OffOk P off) {ρ : Operand → Value} {o : Oper} {v : Value} (h : evPure off ρ o.op = some v) (w : World) (es : Array Event) :
   (execOp ρ o).runT P w es = (.ok (.value v) w, es) := by
 unfold execOp
 cases hop : o.op <;> rw [hop] at h <;> simp only [evPure] at h <;> first | (cases h; done) | skip
 case move x => cases h; rfl
 case assign x => cases h; rfl
 case pick c a b =>
   split at h
   · rename_i t ht
     cases h
     dsimp only
     rw [ht]
     rfl
   · cases h
 case unOp op t x =>
   cases op <;> simp only at h <;> first | (cases h; done) | skip
   split at h
   · rename_i t ht
     cases h
     dsimp only
     rw [ht]
     rfl
   · cases h
 case nilCheck x =>
   split at h
   · rename_i a ha
     cases h
     dsimp only
     rw [ha]
     rfl
   · cases h
 case fieldAddr s x f =>
   split at h
   · rename_i a o' ha ho
     cases h
     obtain ⟨fs, fd, t, h1, h2, h3, h4, h5⟩ := hoff _ _ _ ho
     dsimp only
     rw [ha]
     unfold Instr.fieldAt
     simp [Go.underlying, h1, h2, Instr.sureAddr, fieldPlace, Go.sizeOf, Go.typeInfo, h4, h5, h3]
   · cases h
 case binOp op t x y z =>
   split at h
   · rename_i k a k' b hx hy
     dsimp only
     rw [hx, hy]
     have hg : (eqGuard op t x y (.int k a) (.int k' b)) = Pure.pure () := by unfold eqGuard; split <;> rfl
     rw [hg]
     by_cases hs : op = .shr
     · subst hs
       rw [if_pos rfl] at h
       by_cases hb : b < 0
       · rw [if_pos hb] at h; cases h
       · rw [if_neg hb] at h
         cases h
         simp [Go.binOp, Op.shift, hb]
     · rw [if_neg hs] at h
       by_cases hk : k = k'
       · subst hk
         rw [if_pos rfl] at h
         cases op <;> simp only [intBin] at h <;> first | (cases h; done) | (exact absurd rfl hs) | skip
         all_goals cases h
         all_goals simp [Go.binOp, Op.intArith, Op.intCmp, Op.intBits, bits]
       · rw [if_neg hk] at h; cases h
   · cases h
def putT (T : Array Value) (dst : Option Tmp) (v : Value) : Array Value := match dst with
 | some d => T.setIfInBounds d v
 | none => T
def evalT (T : Array Value) : Operand → Value
 | .tmp t => T.getD t undef
 | .const v => v
 | .global g => .pointer (some ⟨g, 0, none⟩)
 | .func f => .func (.func f) #[] #[]
def yieldedT (ops : Array Oper) (T : Array Value) (j : Nat) : Option Bool := match (ops[j]?).bind (·.dst) with
 | some d => match evalT T (.tmp d) with
   | .bool b => some b
   | _ => none
 | none => none
theorem yielded_eq (ops : Array Oper) (T : Array Value) (j : Nat) : yielded ops T j = yieldedT ops T j := by
 unfold yielded yieldedT evalT
 cases (ops[j]?).bind (·.dst) with
 | none => rfl
 | some d =>
   simp only [Option.bind_some, Array.getD_eq_getD_getElem?]
   cases T[d]? with
   | none => rfl
   | some v => cases v <;> rfl
def evStep (off : TypeId → Nat → Option Nat) (T : Array Value) : List Item → Option (Array Value × List Item)
 | .code (.seq x y) :: k => some (T, .code x :: .code y :: k)
 | .code .skip :: k => some (T, k)
 | .inBlock id :: k => some (T, k)
 | .code (.block id c) :: k => some (T, .code c :: .inBlock id :: k)
 | .code (.loop c) :: k => some (T, .code c :: .inLoop c :: k)
 | .code (.exit id) :: k => match exitTo id k with
   | some k' => some (T, k')
   | none => none
 | .code (.cond c x y) :: k => match evalT T c with
   | .bool true => some (T, .code x :: k)
   | .bool false => some (T, .code y :: k)
   | _ => none
 | .code (.region id ops false) :: k => some (T, .inRegion ops (List.range ops.size) :: k)
 | .inRegion ops [] :: k => some (T, k)
 | .inRegion ops (i :: is) :: k => match ops[i]? with
   | none => none
   | some o => if Region.wanted o (yieldedT ops T) then (match evPure off (evalT T) o.op with
       | some v => some (putT T o.dst v, .inRegion ops is :: k)
       | none => none) else some (putT T o.dst undef, .inRegion ops is :: k)
 | _ => none
def evRun (off : TypeId → Nat → Option Nat) : Nat → Array Value → List Item → Array Value × List Item
 | 0, T, k => (T, k)
 | n + 1, T, k => match evStep off T k with
   | some (T', k') => evRun off n T' k'
   | none => (T, k)
theorem evalT_const (T : Array Value) (v : Value) : evalT T (.const v) = v := rfl
structure Way (P : Program) (R : World → World → Prop) (D : World → World → Array Event → Prop) (K : World → Prop) : Prop where
 rely : ∀ w w₁, K w → R w w₁ → K w₁
 idle : ∀ w, K w → D w w #[]
section
variable {P : Program} {main : Bool} {R : World → World → Prop} {D : World → World → Array Event → Prop} {K : World → Prop} {Stop : Goroutine → World → Prop} {b : Frame} {cs : List Frame} {ds : List Deferred}
def Reach (P : Program) (main : Bool) (R : World → World → Prop) (D : World → World → Array Event → Prop) (K : World → Prop) (Stop : Goroutine → World → Prop) (b : Frame) (cs : List Frame) (ds : List Deferred) (n : Nat) (T : Array Value) (k : List Item) : Prop :=
 ∀ w, K w → Goes P main R D Stop n (G (b.at ⟨T, ds⟩ k) cs) w
theorem Reach.ctl (W : Way P R D K) {n : Nat} {T T' : Array Value} {k k' : List Item} (hs : ∀ w, stepG P main (G (b.at ⟨T, ds⟩ k) cs) w = .go (G (b.at ⟨T', ds⟩ k') cs) w) (h : Reach P main R D K Stop b cs ds n T' k') : Reach P main R D K Stop b cs ds (n + 1) T k := by
 intro w hw
 refine Goes.step rfl fun w₁ h₁ => ?_
 have hw₁ := W.rely w w₁ hw h₁
 rw [hs]
 exact ⟨W.idle w₁ hw₁, h w₁ hw₁⟩
theorem Reach.seq (W : Way P R D K) {n : Nat} {T : Array Value} {x y : Code} {k : List Item} (h : Reach P main R D K Stop b cs ds n T (.code x :: .code y :: k)) : Reach P main R D K Stop b cs ds (n + 1) T (.code (.seq x y) :: k) := .ctl W (fun _ => stepG_seq) h
theorem Reach.skip (W : Way P R D K) {n : Nat} {T : Array Value} {k : List Item} (h : Reach P main R D K Stop b cs ds n T k) : Reach P main R D K Stop b cs ds (n + 1) T (.code .skip :: k) := .ctl W (fun _ => stepG_skip) h
theorem Reach.block (W : Way P R D K) {n : Nat} {T : Array Value} {id : Nat} {c : Code} {k : List Item} (h : Reach P main R D K Stop b cs ds n T (.code c :: .inBlock id :: k)) : Reach P main R D K Stop b cs ds (n + 1) T (.code (.block id c) :: k) := .ctl W (fun _ => stepG_block) h
theorem Reach.inBlock (W : Way P R D K) {n : Nat} {T : Array Value} {id : Nat} {k : List Item} (h : Reach P main R D K Stop b cs ds n T k) : Reach P main R D K Stop b cs ds (n + 1) T (.inBlock id :: k) := .ctl W (fun _ => stepG_inBlock) h
theorem Reach.loop (W : Way P R D K) {n : Nat} {T : Array Value} {c : Code} {k : List Item} (h : Reach P main R D K Stop b cs ds n T (.code c :: .inLoop c :: k)) : Reach P main R D K Stop b cs ds (n + 1) T (.code (.loop c) :: k) := .ctl W (fun _ => stepG_loop) h
theorem Reach.inLoop (W : Way P R D K) {n : Nat} {T : Array Value} {c : Code} {k : List Item} (h : Reach P main R D K Stop b cs ds n T (.code c :: .inLoop c :: k)) : Reach P main R D K Stop b cs ds (n + 1) T (.inLoop c :: k) := .ctl W (fun _ => stepG_inLoop) h
theorem Reach.exit (W : Way P R D K) {n : Nat} {T : Array Value} {id : Nat} {k k' : List Item} (he : exitTo id k = some k') (h : Reach P main R D K Stop b cs ds n T k') : Reach P main R D K Stop b cs ds (n + 1) T (.code (.exit id) :: k) := .ctl W (fun _ => stepG_exit he) h
theorem Reach.cond (W : Way P R D K) {n : Nat} {T : Array Value} {c : Operand} {x y : Code} {k : List Item} (t : Bool) (hc : evalT T c = .bool t) (h : Reach P main R D K Stop b cs ds n T (.code (if t then x else y) :: k)) : Reach P main R D K Stop b cs ds (n + 1) T (.code (.cond c x y) :: k) :=
 .ctl W (fun _ => stepG_cond (a := ⟨T, ds⟩) (t := t) (by cases c <;> exact hc)) h
theorem Reach.cond1 (W : Way P R D K) {n : Nat} {T : Array Value} {c : Operand} {x y : Code} {k : List Item} (hc : evalT T c = .bool true) (h : Reach P main R D K Stop b cs ds n T (.code x :: k)) : Reach P main R D K Stop b cs ds (n + 1) T (.code (.cond c x y) :: k) := .cond W true hc h
theorem Reach.cond0 (W : Way P R D K) {n : Nat} {T : Array Value} {c : Operand} {x y : Code} {k : List Item} (hc : evalT T c = .bool false) (h : Reach P main R D K Stop b cs ds n T (.code y :: k)) : Reach P main R D K Stop b cs ds (n + 1) T (.code (.cond c x y) :: k) := .cond W false hc h
theorem Reach.enterRegion (W : Way P R D K) {n : Nat} {T : Array Value} {id : Nat} {ops : Array Oper} {k : List Item} (h : Reach P main R D K Stop b cs ds n T (.inRegion ops (List.range ops.size) :: k)) : Reach P main R D K Stop b cs ds (n + 1) T (.code (.region id ops false) :: k) := .ctl W (fun _ => stepG_region) h
theorem Reach.endRegion (W : Way P R D K) {n : Nat} {T : Array Value} {ops : Array Oper} {k : List Item} (h : Reach P main R D K Stop b cs ds n T k) : Reach P main R D K Stop b cs ds (n + 1) T (.inRegion ops [] :: k) := .ctl W (fun _ => stepG_region_end) h
theorem Reach.more {n m : Nat} (hn : n ≤ m) {T : Array Value} {k : List Item} (h : Reach P main R D K Stop b cs ds n T k) : Reach P main R D K Stop b cs ds m T k := fun w hw => Go.ConcM.goes_le hn (h w hw)
theorem Reach.op (W : Way P R D K) (hb : b.kind ≠ .early) {off : TypeId → Nat → Option Nat} (hoff : OffOk P off) {n : Nat} {T : Array Value} {ops : Array Oper} {i : Nat} {is : List Nat} {k : List Item} {o : Oper} {v : Value} (ho : ops[i]? = some o)
   (hw : Region.wanted o (yielded ops T) = true) (hv : evPure off (evalT T) o.op = some v) (h : Reach P main R D K Stop b cs ds n (putT T o.dst v) (.inRegion ops is :: k)) : Reach P main R D K Stop b cs ds (n + 1) T (.inRegion ops (i :: is) :: k) := by
 refine .ctl W (fun w => ?_) h
 have he : (Act.mk T ds).eval = evalT T := by funext x; cases x <;> rfl
 have hs := evPure_sound (P := P) hoff hv w #[]
 have hp := Sem.runT_eq P (execOp (evalT T) o) w #[]
 rw [hs] at hp
 have h1 : (execOp (Act.mk T ds).eval o).run P w = .ok (.value v) w := by rw [he]; exact (congrArg Prod.fst hp).symm
 have h2 : (execOp (Act.mk T ds).eval o).events P w #[] = #[] := by rw [he]; exact (congrArg Prod.snd hp).symm
 rw [stepG_value ho hw hb h1]
 have h3 : listed P b.fn (Act.mk T ds) o w = #[] := by unfold listed; rw [h2]; exact seen_none P _
 rw [h3]
 have h4 : (Act.mk T ds).put o.dst v = ⟨putT T o.dst v, ds⟩ := by cases hd : o.dst <;> rfl
 rw [h4]
theorem Reach.unwanted (W : Way P R D K) {n : Nat} {T : Array Value} {ops : Array Oper} {i : Nat} {is : List Nat} {k : List Item} {o : Oper} (ho : ops[i]? = some o)
   (hw : Region.wanted o (yielded ops T) = false) (h : Reach P main R D K Stop b cs ds n (putT T o.dst undef) (.inRegion ops is :: k)) : Reach P main R D K Stop b cs ds (n + 1) T (.inRegion ops (i :: is) :: k) := by
 refine .ctl W (fun w => ?_) h
 have h4 : (Act.mk T ds).put o.dst undef = ⟨putT T o.dst undef, ds⟩ := by cases hd : o.dst <;> rfl
 rw [← h4]
 exact stepG_unwanted ho hw
theorem Reach.step (W : Way P R D K) (hb : b.kind ≠ .early) {off : TypeId → Nat → Option Nat} (hoff : OffOk P off) {n : Nat} {T T' : Array Value} {k k' : List Item} (he : evStep off T k = some (T', k')) (h : Reach P main R D K Stop b cs ds n T' k') : Reach P main R D K Stop b cs ds (n + 1) T k := by
 unfold evStep at he
 split at he
 · cases he; exact .seq W h
 · cases he; exact .skip W h
 · cases he; exact .inBlock W h
 · cases he; exact .block W h
 · cases he; exact .loop W h
 · split at he
   · rename_i hx; cases he; exact .exit W hx h
   · cases he
 · split at he
   · rename_i hx; cases he; exact .cond1 W hx h
   · rename_i hx; cases he; exact .cond0 W hx h
   · cases he
 · cases he; exact .enterRegion W h
 · cases he; exact .endRegion W h
 · rename_i ops i is k
   split at he
   · cases he
   · rename_i o ho
     rw [← show yielded ops T = yieldedT ops T from funext (yielded_eq ops T)] at he
     split at he
     · rename_i hw
       split at he
       · rename_i v hv; cases he; exact .op W hb hoff ho hw hv h
       · cases he
     · rename_i hw; cases he; exact .unwanted W ho (by simpa using hw) h
 · cases he
theorem Reach.run (W : Way P R D K) (hb : b.kind ≠ .early) {off : TypeId → Nat → Option Nat} (hoff : OffOk P off) {n : Nat} : ∀ (f : Nat) {T T' : Array Value} {k k' : List Item}, evRun off f T k = (T', k') → Reach P main R D K Stop b cs ds n T' k' → Reach P main R D K Stop b cs ds (n + f) T k
 | 0, T, T', k, k', he, h => by cases he; exact h
 | f + 1, T, T', k, k', he, h => by
   simp only [evRun] at he
   cases hs : evStep off T k with
   | none => rw [hs] at he; cases he; exact h.more (by omega)
   | some x => rw [hs] at he; exact .step W hb hoff (T' := x.1) (k' := x.2) hs (Reach.run W hb hoff f he h)
theorem Reach.runs (W : Way P R D K) (hb : b.kind ≠ .early) {off : TypeId → Nat → Option Nat} (hoff : OffOk P off) {n : Nat} (f : Nat) {T : Array Value} {k : List Item} (h : Reach P main R D K Stop b cs ds n (evRun off f T k).1 (evRun off f T k).2) : Reach P main R D K Stop b cs ds (n + f) T k := Reach.run W hb hoff f rfl h
theorem Reach.call (W : Way P R D K) (hb : b.kind ≠ .early) {n : Nat} {T : Array Value} {ops : Array Oper} {i : Nat} {is : List Nat} {k : List Item} {o : Oper} {f : FuncId} {fn : Func} {c : Code} {xs : Array Operand} {ats : Array TypeId} (ho : ops[i]? = some o)
   (hw : Region.wanted o (yieldedT ops T) = true) (hop : o.op = .call { callee := .value (.func f), args := xs, argTypes := ats }) (hf : P.funcs[f]? = some fn) (hname : (fn.name == "runtime.NumGoroutine") = false) (hbd : fn.body = some c)
   (h : Reach P main R D K Stop (base f) (b.at ⟨T, ds⟩ (.inRegion ops (i :: is) :: k) :: cs) [] n (xs.map (evalT T) ++ Array.replicate (fn.ntmps - (xs.map (evalT T)).size) undef) [.code c]) : Reach P main R D K Stop b cs ds (n + 1) T (.inRegion ops (i :: is) :: k) := by
 intro w hK
 refine Goes.step rfl fun w₁ h₁ => ?_
 have hw₁ := W.rely w w₁ hK h₁
 have he : (Act.mk T ds).eval = evalT T := by funext x; cases x <;> rfl
 refine goes_call (P := P) (a := ⟨T, ds⟩) ho (by rw [show yielded ops (Act.mk T ds).tmps = yieldedT ops T from funext (yielded_eq ops T)]; exact hw) hb hop hf hname hbd ?_
 rw [he]
 exact ⟨W.idle w₁ hw₁, h w₁ hw₁⟩
theorem Reach.leave0 (W : Way P R D K) (hb : b.kind = .normal) {n : Nat} {T T₀ : Array Value} {ops : Array Oper} {i : Nat} {is : List Nat} {k : List Item} {fn : Func} {b₀ : Frame} {ds₀ : List Deferred} (hf : P.funcs[b.fn]? = some fn) (hr : fn.results = #[])
   (h : Reach P main R D K Stop b₀ cs ds₀ n (putT T₀ ((ops[i]?).bind (·.dst)) (.tuple #[])) (.inRegion ops is :: k)) {k' : List Item} (hk : k' = [] ∨ ∃ k'', k' = .code .ret :: k'') :
   Reach P main R D K Stop b (b₀.at ⟨T₀, ds₀⟩ (.inRegion ops (i :: is) :: k) :: cs) [] (n + 2) T k' := by
 intro w hK
 refine Goes.step rfl fun w₁ h₁ => ?_
 have hw₁ := W.rely w w₁ hK h₁
 have e : stepG P main (G (b.at ⟨T, []⟩ k') (b₀.at ⟨T₀, ds₀⟩ (.inRegion ops (i :: is) :: k) :: cs)) w₁ = .go (G { b.at ⟨T, []⟩ k' with mode := .returning } (b₀.at ⟨T₀, ds₀⟩ (.inRegion ops (i :: is) :: k) :: cs)) w₁ := by
   rcases hk with rfl | ⟨k'', rfl⟩
   · exact stepG_end
   · exact stepG_ret'
 rw [e]
 refine ⟨W.idle w₁ hw₁, Goes.step rfl fun w₂ h₂ => ?_⟩
 have hw₂ := W.rely w₁ w₂ hw₁ h₂
 refine goes_leave0 hb rfl hf hr ?_
 have hp : (Act.mk T₀ ds₀).put ((ops[i]?).bind (·.dst)) (.tuple #[]) = ⟨putT T₀ ((ops[i]?).bind (·.dst)) (.tuple #[]), ds₀⟩ := by cases (ops[i]?).bind (·.dst) <;> rfl
 rw [hp]
 exact ⟨W.idle w₂ hw₂, h w₂ hw₂⟩
end
end Go.Proofs.Ytcoppnbjpncdcaa.Q
end
section
set_option linter.unusedVariables false
namespace Go.Proofs.Ytcoppnbjpncdcaa.Q
open Go Go.Conc
def offP (P : Program) (s : TypeId) (f : Nat) : Option Nat :=
 match P.underlying s with
 | some (.struct fs) => match fs[f]? with
   | some fd => match P.info? fd.type with
     | some t => if t.size ≠ 0 then some fd.offset else none
     | none => none
   | none => none
 | _ => none
theorem offP_ok (P : Program) : OffOk P (offP P) := by
 intro s f o h
 unfold offP at h
 split at h
 · rename_i fs hu
   split at h
   · rename_i fd hf
     split at h
     · rename_i t ht
       split at h
       · rename_i hz
         cases h
         exact ⟨fs, fd, t, hu, hf, rfl, ht, hz⟩
       · cases h
     · cases h
   · cases h
 · cases h
theorem off71_0 : offP Try.prog 71 0 = some 0 := by kernel_rfl
theorem off71_1 : offP Try.prog 71 1 = some 1 := by kernel_rfl
theorem off73_1 : offP Try.prog 73 1 = some 0 := by kernel_rfl
theorem size_putT (T : Array Value) (d : Option Tmp) (v : Value) : (putT T d v).size = T.size := by cases d <;> simp [putT]
theorem evalT_put (T : Array Value) (d j : Tmp) (v : Value) (h : d < T.size) : evalT (putT T (some d) v) (.tmp j) = if j = d then v else evalT T (.tmp j) := by
 simp only [evalT, putT, Array.getD_eq_getD_getElem?, Array.getElem?_setIfInBounds]
 by_cases hj : j = d
 · subst hj; simp [h]
 · rw [if_neg hj, if_neg (Ne.symm hj)]
theorem t : True := trivial
end Go.Proofs.Ytcoppnbjpncdcaa.Q
end
section
set_option linter.unusedVariables false
namespace Go.Proofs.Ytcoppnbjpncdcaa.Q
open Go Go.Conc
open Go.ConcR (WgAt wgBlock stA smA rd wr mk DC0)
open Go.ConcM (OsLater)
structure Ctx (C : Cfg) (Kb : Nat → Prop) (i : Nat) (K : World → Prop) : Prop where
 apart : C.Apart
 noF : ¬ Kb C.F
 rely : ∀ w w₁, K w → Ry C (· = i) Kb w w₁ → K w₁
 live : ∀ w, K w → Live C w
section
variable {C : Cfg} {Kb : Nat → Prop} {i : Nat} {K : World → Prop} {Fin : Goroutine → World → Prop}
theorem Wr.refl (C : Cfg) (i : Nat) (w : World) : Wr C i w w := ⟨rfl, rfl, rfl, rfl, fun _ _ _ => rfl, id, fun _ _ _ _ => rfl⟩
theorem Ctx.way (X : Ctx C Kb i K) {P : Program} : Way P (Ry C (· = i) Kb) (Dk C Kb i) K := ⟨X.rely, fun w _ => ⟨Wr.refl C i w, by simp⟩⟩
abbrev RchL (C : Cfg) (Kb : Nat → Prop) (i : Nat) (K : World → Prop) (Fin : Goroutine → World → Prop) (k : Nat) (Th₀ : Th) (b : Frame) (cs : List Frame) (ds : List Deferred) (n : Nat) (T : Array Value) (items : List Item) : Prop :=
 Reach Try.prog false (Ry C (· = i) Kb) (Dk C Kb i) K (AtD C Try.prog Kb i Fin k Th₀) b cs ds n T items
theorem RchL.zero {t : Th} {b : Frame} {cs : List Frame} {ds : List Deferred} {n : Nat} {T : Array Value} {items : List Item} : RchL C Kb i K Fin 0 t b cs ds n T items := fun w _ => Goes.stop fun _ _ => trivial
theorem RchL.stop (X : Ctx C Kb i K) {k : Nat} {t : Th} {b : Frame} {cs : List Frame} {ds : List Deferred} {n : Nat} {T : Array Value} {items : List Item}
   (h : ∀ w, K w → Stp C Try.prog Kb i Fin (AtD C Try.prog Kb i Fin k) t (G (b.at ⟨T, ds⟩ items) cs) w) : RchL C Kb i K Fin (k + 1) t b cs ds n T items :=
 fun w hw => Goes.stop fun w₁ h₁ => h w₁ (X.rely w w₁ hw h₁)
theorem x105_n : (Try.f105.name == "runtime.NumGoroutine") = false := by kernel_rfl
theorem x105_b : Try.f105.body.isNone = true := by kernel_rfl
theorem x105_x : Extern.findNext Try.f105 = none := by kernel_rfl
theorem x105_f : Extern.find Try.f105 = some (Extern.Atomic.casT (.int .i32)) := by kernel_rfl
theorem x107_n : (Try.f107.name == "runtime.NumGoroutine") = false := by kernel_rfl
theorem x107_b : Try.f107.body.isNone = true := by kernel_rfl
theorem x107_x : Extern.findNext Try.f107 = none := by kernel_rfl
theorem x107_f : Extern.find Try.f107 = some (Extern.Atomic.update (Op.intArith .add) .i32 true) := by kernel_rfl
theorem x109_n : (Try.f109.name == "runtime.NumGoroutine") = false := by kernel_rfl
theorem x109_b : Try.f109.body.isNone = true := by kernel_rfl
theorem x109_x : Extern.findNext Try.f109 = none := by kernel_rfl
theorem x109_f : Extern.find Try.f109 = some (Extern.Sync.canSpin) := by kernel_rfl
theorem x110_n : (Try.f110.name == "runtime.NumGoroutine") = false := by kernel_rfl
theorem x110_b : Try.f110.body.isNone = true := by kernel_rfl
theorem x110_x : Extern.findNext Try.f110 = none := by kernel_rfl
theorem x110_f : Extern.find Try.f110 = some (fun _ => pure (.tuple #[])) := by kernel_rfl
theorem x112_n : (Try.f112.name == "runtime.NumGoroutine") = false := by kernel_rfl
theorem x112_b : Try.f112.body.isNone = true := by kernel_rfl
theorem x112_x : Extern.findNext Try.f112 = none := by kernel_rfl
theorem x112_f : Extern.find Try.f112 = some (Extern.OsHooks.nano) := by kernel_rfl
theorem x112_q : Try.f112.norace = true := by kernel_rfl
theorem x113_n : (Try.f113.name == "runtime.NumGoroutine") = false := by kernel_rfl
theorem x113_b : Try.f113.body.isNone = true := by kernel_rfl
theorem x113_x : Extern.findNext Try.f113 = none := by kernel_rfl
theorem x113_f : Extern.find Try.f113 = some (Extern.Sync.semacquire) := by kernel_rfl
theorem x115_n : (Try.f115.name == "runtime.NumGoroutine") = false := by kernel_rfl
theorem x115_b : Try.f115.body.isNone = true := by kernel_rfl
theorem x115_x : Extern.findNext Try.f115 = none := by kernel_rfl
theorem x115_f : Extern.find Try.f115 = some (Extern.Sync.semrelease) := by kernel_rfl
theorem x69_n : (Try.f69.name == "runtime.NumGoroutine") = false := by kernel_rfl
theorem x69_b : Try.f69.body.isNone = true := by kernel_rfl
theorem x69_x : Extern.findNext Try.f69 = none := by kernel_rfl
theorem x69_f : Extern.find Try.f69 = some (fun _ => do mark .disable; pure Extern.Race.none_) := by kernel_rfl
theorem x70_n : (Try.f70.name == "runtime.NumGoroutine") = false := by kernel_rfl
theorem x70_b : Try.f70.body.isNone = true := by kernel_rfl
theorem x70_x : Extern.findNext Try.f70 = none := by kernel_rfl
theorem x70_f : Extern.find Try.f70 = some (fun _ => do mark .enable; pure Extern.Race.none_) := by kernel_rfl
theorem x83_n : (Try.f83.name == "runtime.NumGoroutine") = false := by kernel_rfl
theorem x83_b : Try.f83.body.isNone = true := by kernel_rfl
theorem x83_x : Extern.findNext Try.f83 = none := by kernel_rfl
theorem x83_f : Extern.find Try.f83 = some (Extern.Race.marked .acquire) := by kernel_rfl
theorem x68_n : (Try.f68.name == "runtime.NumGoroutine") = false := by kernel_rfl
theorem x68_b : Try.f68.body.isNone = true := by kernel_rfl
theorem x68_x : Extern.findNext Try.f68 = none := by kernel_rfl
theorem x68_f : Extern.find Try.f68 = some (Extern.Race.marked .releaseMerge) := by kernel_rfl
theorem evalA (T : Array Value) (ds : List Deferred) : (Act.mk T ds).eval = evalT T := by funext x; cases x <;> rfl
theorem putA (T : Array Value) (ds : List Deferred) (d : Option Tmp) (v : Value) : (Act.mk T ds).put d v = ⟨putT T d v, ds⟩ := by cases d <;> rfl
theorem wantedA {ds : List Deferred} {o : Oper} {ops : Array Oper} {T : Array Value} (h : Region.wanted o (yieldedT ops T) = true) : Region.wanted o (yielded ops (Act.mk T ds).tmps) = true := by
 rw [show yielded ops (Act.mk T ds).tmps = yieldedT ops T from funext (yielded_eq ops T)]; exact h
section
variable {k : Nat} {t : Th} {b : Frame} {cs : List Frame} {ds : List Deferred} {n : Nat} {T : Array Value} {ops : Array Oper} {j : Nat} {is : List Nat} {k0 : List Item} {o : Oper} {ats : Array TypeId}
theorem Ctx.eff (X : Ctx C Kb i K) {w w' : World} {m : Mx} {ms : Nat} (hw : K w) (e : LockEff C w w') (hm : MuAt C w' m ms) : K w' := X.rely w w' hw (Ry.of_eff X.apart X.noF e hm)
theorem RchL.cas (X : Ctx C Kb i K) (hb : b.kind ≠ .early) (ho : ops[j]? = some o) (hwn : Region.wanted o (yieldedT ops T) = true) {x y z : Operand} (hop : o.op = .call { callee := .value (.func 105), args := #[x, y, z], argTypes := ats })
   {ov nv : Nat} (hx : evalT T x = .pointer (some (muA C))) (hy : evalT T y = .int .i32 ov) (hz : evalT T z = .int .i32 nv)
   (hp1 : t.pc ≠ .s1) (hp2 : t.pc ≠ .us) (hev : ∀ es : Array Event, (∀ e ∈ es, ∃ x, e = ⟨.cell (muA C), x, true⟩) → EvLock C t es)
   (hit : ∀ m ms, Fits t m ms → m.enc = ov → ∃ t' m', Mv t m ms t' m' ms ∧ m'.enc = nv ∧ t'.pc ≠ .out ∧ RchL C Kb i K Fin k t' b cs ds 200 (putT T o.dst (.bool true)) (.inRegion ops is :: k0))
   (miss : ∀ m ms, Fits t m ms → m.enc ≠ ov → ∃ t', Mv t m ms t' m ms ∧ t'.pc ≠ .out ∧ RchL C Kb i K Fin k t' b cs ds 200 (putT T o.dst (.bool false)) (.inRegion ops is :: k0)) :
   RchL C Kb i K Fin (k + 1) t b cs ds n T (.inRegion ops (j :: is) :: k0) := by
 refine RchL.stop X fun w hw => ⟨rfl, rfl, fun h => absurd h hp2, fun m ms hm hf => ⟨fun h => absurd h hp1, fun _ => ?_⟩⟩
 by_cases he : m.enc = ov
 · obtain ⟨t', m', hv, hn, hout, hr⟩ := hit m ms hf he
   have hst := stepG_cas_hit (P := Try.prog) (main := false) (b := b) (a := ⟨T, ds⟩) (kk := k0) (cs := cs) (w := w) (rest := is) ho (wantedA hwn) hb hop Try.func105 x105_n x105_b x105_x .i32 x105_f (by rw [evalA]; exact hx) (by rw [evalA, hy, ← he]) (by rw [evalA]; exact hz) hm.cellSt (hm.thaw 0)
   rw [putA, ← hn] at hst
   exact ⟨t', m', ms, _, _, _, hv, hst, hm.setMu m', LockEff.set w 0 _, hev _ (by simp), fun h => absurd h hout, fun _ => hr _ (X.eff hw (LockEff.set w 0 _) (hm.setMu m'))⟩
 · obtain ⟨t', hv, hout, hr⟩ := miss m ms hf he
   have hst := stepG_cas_miss (P := Try.prog) (main := false) (b := b) (a := ⟨T, ds⟩) (kk := k0) (cs := cs) (w := w) (rest := is) ho (wantedA hwn) hb hop Try.func105 x105_n x105_b x105_x .i32 x105_f (by rw [evalA]; exact hx) (by rw [evalA]; exact hy) (by rw [evalA]; exact hz) hm.cellSt (hm.thaw 0) (by omega)
   rw [putA] at hst
   exact ⟨t', m, ms, _, _, _, hv, hst, hm, LockEff.refl w, hev _ (by simp), fun h => absurd h hout, fun _ => hr _ hw⟩
theorem stepG_loadQ {main : Bool} {w : World} {x : Operand} (hb : b.kind ≠ .early) (ho : ops[j]? = some o) (hwn : Region.wanted o (yieldedT ops T) = true) (hop : o.op = .load 21 x) {ad : Addr} {v : Int} (hx : evalT T x = .pointer (some ad)) (hc : w.cell? ad = some (.int .i32 v))
   (hq : (Try.prog.funcs[b.fn]?).any (·.norace) = true) :
   stepG Try.prog main (G (b.at ⟨T, ds⟩ (.inRegion ops (j :: is) :: k0)) cs) w = .go (G (b.at ⟨putT T o.dst (.int .i32 v), ds⟩ (.inRegion ops is :: k0)) cs) w #[] := by
 have hx' : (Act.mk T ds).eval x = .pointer (some ad) := by rw [evalA]; exact hx
 have hr : (execOp (Act.mk T ds).eval o).run Try.prog w = .ok (.value (.int .i32 v)) w := by
   unfold execOp
   simp only [hop, hx']
   simp [go_sem, hc]
 have he : (execOp (Act.mk T ds).eval o).events Try.prog w #[] = #[⟨.cell ad, false, false⟩] := by
   unfold execOp
   simp only [hop, hx']
   simp [go_sem, hc]
 rw [stepG_value ho (wantedA hwn) hb hr]
 unfold listed
 rw [he, seen_def, hq, putA]
 simp [seenStep]
theorem RchL.load (X : Ctx C Kb i K) (hb : b.kind ≠ .early) (ho : ops[j]? = some o) (hwn : Region.wanted o (yieldedT ops T) = true) {x : Operand} (hop : o.op = .load 21 x) (hx : evalT T x = .pointer (some (muA C))) (hq : (Try.prog.funcs[b.fn]?).any (·.norace) = true)
   (hp1 : t.pc ≠ .s1) (hp2 : t.pc ≠ .us) (hev : ∀ es : Array Event, (∀ e ∈ es, ∃ x, e = ⟨.cell (muA C), x, true⟩) → EvLock C t es)
   (h : ∀ m ms, Fits t m ms → ∃ t', Mv t m ms t' m ms ∧ t'.pc ≠ .out ∧ RchL C Kb i K Fin k t' b cs ds 200 (putT T o.dst (.int .i32 m.enc)) (.inRegion ops is :: k0)) :
   RchL C Kb i K Fin (k + 1) t b cs ds n T (.inRegion ops (j :: is) :: k0) := by
 refine RchL.stop X fun w hw => ⟨rfl, rfl, fun h => absurd h hp2, fun m ms hm hf => ⟨fun h => absurd h hp1, fun _ => ?_⟩⟩
 obtain ⟨t', hv, hout, hr⟩ := h m ms hf
 exact ⟨t', m, ms, _, _, _, hv, stepG_loadQ hb ho hwn hop hx hm.cellSt hq, hm, LockEff.refl w, hev _ (by simp), fun h => absurd h hout, fun _ => hr _ hw⟩
theorem RchL.loadIdle (X : Ctx C Kb i K) (hb : b.kind ≠ .early) (ho : ops[j]? = some o) (hwn : Region.wanted o (yieldedT ops T) = true) {x : Operand} (hop : o.op = .load 21 x) (hx : evalT T x = .pointer (some (muA C))) (hq : (Try.prog.funcs[b.fn]?).any (·.norace) = true) {t : Th}
   (h : ∀ v : Int, RchL C Kb i K Fin k t b cs ds n (putT T o.dst (.int .i32 v)) (.inRegion ops is :: k0)) : RchL C Kb i K Fin k t b cs ds (n + 1) T (.inRegion ops (j :: is) :: k0) := by
 intro w hw
 refine Goes.step rfl fun w₁ h₁ => ?_
 have hw₁ := X.rely w w₁ hw h₁
 obtain ⟨m, ms, hm⟩ := (X.live _ hw₁).mu
 rw [stepG_loadQ hb ho hwn hop hx hm.cellSt hq]
 exact ⟨⟨Wr.refl C i w₁, by simp⟩, h _ _ hw₁⟩
theorem RchL.add (X : Ctx C Kb i K) (hb : b.kind ≠ .early) (ho : ops[j]? = some o) (hwn : Region.wanted o (yieldedT ops T) = true) {x y : Operand} (hop : o.op = .call { callee := .value (.func 107), args := #[x, y], argTypes := ats })
   {d : Int} (hx : evalT T x = .pointer (some (muA C))) (hy : evalT T y = .int .i32 d)
   (hp1 : t.pc ≠ .s1) (hp2 : t.pc ≠ .us) (hev : ∀ es : Array Event, (∀ e ∈ es, ∃ x, e = ⟨.cell (muA C), x, true⟩) → EvLock C t es)
   (h : ∀ m ms, Fits t m ms → ∃ t' m', Mv t m ms t' m' ms ∧ IntKind.i32.wrap (m.enc + d) = m'.enc ∧ t'.pc ≠ .out ∧ RchL C Kb i K Fin k t' b cs ds 200 (putT T o.dst (.int .i32 m'.enc)) (.inRegion ops is :: k0)) :
   RchL C Kb i K Fin (k + 1) t b cs ds n T (.inRegion ops (j :: is) :: k0) := by
 refine RchL.stop X fun w hw => ⟨rfl, rfl, fun h => absurd h hp2, fun m ms hm hf => ⟨fun h => absurd h hp1, fun _ => ?_⟩⟩
 obtain ⟨t', m', hv, hn, hout, hr⟩ := h m ms hf
 have hst := stepG_add_atomic (P := Try.prog) (main := false) (b := b) (a := ⟨T, ds⟩) (kk := k0) (cs := cs) (w := w) (rest := is) ho (wantedA hwn) hb hop Try.func107 x107_n x107_b x107_x .i32 x107_f (by rw [evalA]; exact hx) (by rw [evalA]; exact hy) hm.cellSt (hm.thaw 0)
 rw [putA, hn] at hst
 exact ⟨t', m', ms, _, _, _, hv, hst, hm.setMu m', LockEff.set w 0 _, hev _ (by simp), fun h => absurd h hout, fun _ => hr _ (X.eff hw (LockEff.set w 0 _) (hm.setMu m'))⟩
theorem RchL.acq (X : Ctx C Kb i K) (hb : b.kind ≠ .early) (ho : ops[j]? = some o) (hwn : Region.wanted o (yieldedT ops T) = true) {xs : Array Operand} (hop : o.op = .call { callee := .value (.func 113), args := xs, argTypes := ats })
   (hx : (xs.map (evalT T))[0]? = some (.pointer (some (msA C)))) (hp : t.pc = .s1)
   (h : RchL C Kb i K Fin k { t with pc := .t2 } b cs ds 200 (putT T o.dst (.tuple #[])) (.inRegion ops is :: k0)) :
   RchL C Kb i K Fin (k + 1) t b cs ds n T (.inRegion ops (j :: is) :: k0) := by
 have hx' : (xs.map (Act.mk T ds).eval)[0]? = some (.pointer (some (msA C))) := by rw [evalA]; exact hx
 refine RchL.stop X fun w hw => ⟨rfl, rfl, fun h => absurd (hp.symm.trans h) (by simp), fun m ms hm hf => ⟨fun _ h0 => ?_, fun hn => ?_⟩⟩
 · subst h0
   exact stepG_semacquire_wait ho (wantedA hwn) hop Try.func113 x113_n x113_b x113_x x113_f hx' hm.cellSm
 · cases ms with
   | zero => exact absurd ⟨hp, rfl⟩ hn
   | succ ms =>
     have hst := stepG_semacquire (P := Try.prog) (main := false) (b := b) (a := ⟨T, ds⟩) (kk := k0) (cs := cs) (w := w) (rest := is) ho (wantedA hwn) hb hop Try.func113 x113_n x113_b x113_x x113_f hx' hm.cellSm (by omega) (hm.thaw 1)
     rw [putA, show (((ms + 1 : Nat) : Int) - 1) = (ms : Nat) by omega] at hst
     exact ⟨_, m, ms, _, _, _, .s1 hp, hst, hm.setMs ms, LockEff.set w 1 _, by simp only [EvLock, hp], fun h => by simp at h, fun _ => h _ (X.eff hw (LockEff.set w 1 _) (hm.setMs ms))⟩
theorem RchL.rel (X : Ctx C Kb i K) (hb : b.kind ≠ .early) (ho : ops[j]? = some o) (hwn : Region.wanted o (yieldedT ops T) = true) {xs : Array Operand} (hop : o.op = .call { callee := .value (.func 115), args := xs, argTypes := ats })
   (hx : (xs.map (evalT T))[0]? = some (.pointer (some (msA C))))
   (h : RchL C Kb i K Fin k (at_ .ue) b cs ds 200 (putT T o.dst (.tuple #[])) (.inRegion ops is :: k0)) :
   RchL C Kb i K Fin (k + 1) (at_ .us) b cs ds n T (.inRegion ops (j :: is) :: k0) := by
 have hx' : (xs.map (Act.mk T ds).eval)[0]? = some (.pointer (some (msA C))) := by rw [evalA]; exact hx
 refine RchL.stop X fun w hw => ⟨rfl, rfl, fun _ => Go.ConcR.Gen.mayWake_entry ho hop Try.func115 x115_b, fun m ms hm hf => ⟨fun h => absurd h (by simp), fun hn => ?_⟩⟩
 have h0 : ms = 0 := hf.us rfl
 subst h0
 have hst := stepG_semrelease (P := Try.prog) (main := false) (b := b) (a := ⟨T, ds⟩) (kk := k0) (cs := cs) (w := w) (rest := is) ho (wantedA hwn) hb hop Try.func115 x115_n x115_b x115_x x115_f hx' hm.cellSm (hm.thaw 1)
 rw [putA, show IntKind.u32.wrap (((0 : Nat) : Int) + 1) = ((1 : Nat) : Int) by decide] at hst
 exact ⟨_, m, 1, _, _, _, .us, hst, hm.setMs 1, LockEff.set w 1 _, rfl, fun h => absurd h (by simp), fun _ => h _ (X.eff hw (LockEff.set w 1 _) (hm.setMs 1))⟩
theorem RchL.nano (X : Ctx C Kb i K) (hb : b.kind ≠ .early) (ho : ops[j]? = some o) (hwn : Region.wanted o (yieldedT ops T) = true) {xs : Array Operand} (hop : o.op = .call { callee := .value (.func 112), args := xs, argTypes := ats })
   (hp1 : t.pc ≠ .s1) (hp2 : t.pc ≠ .us) (hev : EvLock C t #[])
   (h : ∀ v : Int, ∃ t', (∀ m ms, Mv t m ms t' m ms) ∧ t'.pc ≠ .out ∧ RchL C Kb i K Fin k t' b cs ds 200 (putT T o.dst (.int .i64 v)) (.inRegion ops is :: k0)) :
   RchL C Kb i K Fin (k + 1) t b cs ds n T (.inRegion ops (j :: is) :: k0) := by
 refine RchL.stop X fun w hw => ⟨rfl, rfl, fun h => absurd h hp2, fun m ms hm hf => ⟨fun h => absurd h hp1, fun _ => ?_⟩⟩
 obtain ⟨t', hv, hout, hr⟩ := h ((w.os.mono + w.tick : Nat) : Int)
 have hst := stepG_nanotime (P := Try.prog) (main := false) (b := b) (a := ⟨T, ds⟩) (kk := k0) (cs := cs) (w := w) (rest := is) ho (wantedA hwn) hb hop Try.func112 x112_n x112_b x112_x x112_f x112_q
 rw [putA] at hst
 have he : LockEff C w w.later := ⟨rfl, rfl, rfl, ⟨w.tick, rfl⟩, fun _ _ => rfl⟩
 exact ⟨t', m, ms, _, _, _, hv m ms, hst, hm, he, hev, fun h => absurd h hout, fun _ => hr _ (X.eff hw he hm)⟩
theorem RchL.spin (X : Ctx C Kb i K) (hb : b.kind ≠ .early) (ho : ops[j]? = some o) (hwn : Region.wanted o (yieldedT ops T) = true) {x : Operand} (hop : o.op = .call { callee := .value (.func 109), args := #[x], argTypes := ats })
   {it : Int} (hx : evalT T x = .int .i64 it) (hp1 : t.pc ≠ .s1) (hp2 : t.pc ≠ .us) (hev : EvLock C t #[])
   (hno : ∃ t', (∀ m ms, Mv t m ms t' m ms) ∧ t'.pc ≠ .out ∧ RchL C Kb i K Fin k t' b cs ds 200 (putT T o.dst (.bool false)) (.inRegion ops is :: k0))
   (hyes : it < 4 → ∃ t', (∀ m ms, Fits t m ms → Mv t m ms t' m ms) ∧ t'.pc ≠ .out ∧ RchL C Kb i K Fin k t' b cs ds 200 (putT T o.dst (.bool true)) (.inRegion ops is :: k0)) :
   RchL C Kb i K Fin (k + 1) t b cs ds n T (.inRegion ops (j :: is) :: k0) := by
 have hx' : (#[x] : Array Operand).map (Act.mk T ds).eval = #[.int .i64 it] := by rw [evalA]; simp [hx]
 refine RchL.stop X fun w hw => ⟨rfl, rfl, fun h => absurd h hp2, fun m ms hm hf => ⟨fun h => absurd h hp1, fun _ => ?_⟩⟩
 obtain ⟨t0, hv0, hout0, hr0⟩ := hno
 by_cases h4 : it < 4
 · have hst := stepG_canSpin_ask (P := Try.prog) (main := false) (b := b) (a := ⟨T, ds⟩) (kk := k0) (cs := cs) (w := w) (rest := is) ho (wantedA hwn) hb hop Try.func109 x109_n x109_b x109_x x109_f hx' h4
   rw [putA] at hst
   have he : LockEff C w w.asked := ⟨rfl, rfl, rfl, .refl _, fun _ _ => rfl⟩
   cases hs : w.spins with
   | true =>
     rw [hs] at hst
     obtain ⟨t', hv, hout, hr⟩ := hyes h4
     exact ⟨t', m, ms, _, _, _, hv m ms hf, hst, hm, he, hev, fun h => absurd h hout, fun _ => hr _ (X.eff hw he hm)⟩
   | false =>
     rw [hs] at hst
     exact ⟨t0, m, ms, _, _, _, hv0 m ms, hst, hm, he, hev, fun h => absurd h hout0, fun _ => hr0 _ (X.eff hw he hm)⟩
 · have hst := stepG_canSpin_no (P := Try.prog) (main := false) (b := b) (a := ⟨T, ds⟩) (kk := k0) (cs := cs) (w := w) (rest := is) ho (wantedA hwn) hb hop Try.func109 x109_n x109_b x109_x x109_f hx' (by omega)
   rw [putA] at hst
   exact ⟨t0, m, ms, _, _, _, hv0 m ms, hst, hm, LockEff.refl w, hev, fun h => absurd h hout0, fun _ => hr0 _ hw⟩
theorem RchL.mark0 (X : Ctx C Kb i K) (hb : b.kind ≠ .early) (ho : ops[j]? = some o) (hwn : Region.wanted o (yieldedT ops T) = true) {xs : Array Operand} {f : FuncId} {fn : Func} {mm : Mark} (hmm : ∀ g, mm ≠ .extern g) (hop : o.op = .call { callee := .value (.func f), args := xs, argTypes := ats })
   (hf : Try.prog.funcs[f]? = some fn) (h1 : (fn.name == "runtime.NumGoroutine") = false) (h2 : fn.body.isNone = true) (h3 : Extern.findNext fn = none) (h4 : Extern.find fn = some (fun _ => do mark mm; pure Extern.Race.none_))
   (hp1 : t.pc ≠ .s1) (hp2 : t.pc ≠ .us) (hev : EvLock C t #[mk mm]) {t' : Th} (hv : ∀ m ms, Mv t m ms t' m ms)
   (hfin : t'.pc = .out → ∀ w, K w → Fin (G (b.at ⟨putT T o.dst (.tuple #[]), ds⟩ (.inRegion ops is :: k0)) cs) w)
   (h : t'.pc ≠ .out → RchL C Kb i K Fin k t' b cs ds 200 (putT T o.dst (.tuple #[])) (.inRegion ops is :: k0)) :
   RchL C Kb i K Fin (k + 1) t b cs ds n T (.inRegion ops (j :: is) :: k0) := by
 refine RchL.stop X fun w hw => ⟨rfl, rfl, fun h => absurd h hp2, fun m ms hm hf' => ⟨fun h => absurd h hp1, fun _ => ?_⟩⟩
 have hst := stepG_mark0 (P := Try.prog) (main := false) (b := b) (a := ⟨T, ds⟩) (kk := k0) (cs := cs) (w := w) (rest := is) mm hmm ho (wantedA hwn) hb hop hf h1 h2 h3 h4
 rw [putA] at hst
 exact ⟨t', m, ms, _, _, _, hv m ms, hst, hm, LockEff.refl w, hev, fun e => hfin e w hw, fun e => h e _ hw⟩
theorem RchL.markAt (X : Ctx C Kb i K) (hb : b.kind ≠ .early) (ho : ops[j]? = some o) (hwn : Region.wanted o (yieldedT ops T) = true) {xs : Array Operand} {f : FuncId} {fn : Func} {mm : Addr → Mark} (hmm : ∀ ad g, mm ad ≠ .extern g) (hop : o.op = .call { callee := .value (.func f), args := xs, argTypes := ats })
   (hf : Try.prog.funcs[f]? = some fn) (h1 : (fn.name == "runtime.NumGoroutine") = false) (h2 : fn.body.isNone = true) (h3 : Extern.findNext fn = none) (h4 : Extern.find fn = some (Extern.Race.marked mm))
   (hx : (xs.map (evalT T))[0]? = some (.pointer (some (muA C))))
   (hp1 : t.pc ≠ .s1) (hp2 : t.pc ≠ .us) (hev : EvLock C t #[mk (mm (muA C))]) {t' : Th} (hv : ∀ m ms, Mv t m ms t' m ms) (hout : t'.pc ≠ .out)
   (h : RchL C Kb i K Fin k t' b cs ds 200 (putT T o.dst (.tuple #[])) (.inRegion ops is :: k0)) :
   RchL C Kb i K Fin (k + 1) t b cs ds n T (.inRegion ops (j :: is) :: k0) := by
 have hx' : (xs.map (Act.mk T ds).eval)[0]? = some (.pointer (some (muA C))) := by rw [evalA]; exact hx
 refine RchL.stop X fun w hw => ⟨rfl, rfl, fun h => absurd h hp2, fun m ms hm hf' => ⟨fun h => absurd h hp1, fun _ => ?_⟩⟩
 have hst := stepG_markAt (P := Try.prog) (main := false) (b := b) (a := ⟨T, ds⟩) (kk := k0) (cs := cs) (w := w) (rest := is) mm hmm ho (wantedA hwn) hb hop hf h1 h2 h3 h4 hx'
 rw [putA] at hst
 exact ⟨t', m, ms, _, _, _, hv m ms, hst, hm, LockEff.refl w, hev, fun e => absurd e hout, fun _ => h _ hw⟩
end
theorem RchL.conv (X : Ctx C Kb i K) {k : Nat} {t : Th} {b : Frame} {cs : List Frame} {ds : List Deferred} {n : Nat} {T : Array Value} {ops : Array Oper} {j : Nat} {is : List Nat} {k0 : List Item} {o : Oper} (hb : b.kind ≠ .early) (ho : ops[j]? = some o) (hwn : Region.wanted o (yieldedT ops T) = true) {x : Operand} (hop : o.op = .convert 127 98 x) (hx : evalT T x = .pointer (some (muA C)))
   (h : RchL C Kb i K Fin k t b cs ds n (putT T o.dst (.pointer (some (muA C)))) (.inRegion ops is :: k0)) : RchL C Kb i K Fin k t b cs ds (n + 1) T (.inRegion ops (j :: is) :: k0) := by
 intro w hw
 refine Goes.step rfl fun w₁ h₁ => ?_
 have hw₁ := X.rely w w₁ hw h₁
 obtain ⟨m, ms, hm⟩ := (X.live _ hw₁).mu
 have hx' : (Act.mk T ds).eval x = .pointer (some (muA C)) := by rw [evalA]; exact hx
 have hz : (Try.prog.info? 71).map (fun i => decide (i.size = 0)) = some false := by kernel_rfl
 have hu : Try.prog.underlying 127 = some (.pointer 71) := by kernel_rfl
 have hd : Try.prog.underlying 98 = some .unsafePointer := by kernel_rfl
 have hr : (execOp (Act.mk T ds).eval o).run Try.prog w₁ = .ok (.value (.pointer (some (muA C)))) w₁ := by
   unfold execOp
   simp only [hop, hx']
   simp [go_sem, run_convert_to_unsafe (P := Try.prog) hu hd hz hm.cellSt]
 have he : (execOp (Act.mk T ds).eval o).events Try.prog w₁ #[] = #[] := by
   unfold execOp
   simp only [hop, hx']
   simp [go_sem, events_convert_to_unsafe (P := Try.prog) hu hd hz hm.cellSt]
 rw [stepG_value ho (wantedA hwn) hb hr]
 have h3 : listed Try.prog b.fn (Act.mk T ds) o w₁ = #[] := by unfold listed; rw [he]; exact seen_none Try.prog _
 rw [h3, putA]
 exact ⟨⟨Wr.refl C i w₁, by simp⟩, h _ hw₁⟩
theorem Reach.nothing {P : Program} {main : Bool} {R : World → World → Prop} {D : World → World → Array Event → Prop} {K : World → Prop} {Stop : Goroutine → World → Prop} {b : Frame} {cs : List Frame} {ds : List Deferred} (W : Way P R D K) (hb : b.kind ≠ .early) {n : Nat} {T : Array Value} {ops : Array Oper} {j : Nat} {is : List Nat} {k0 : List Item} {o : Oper} {xs : Array Operand} {ats : Array TypeId} {f : FuncId} {fn : Func} (v : Value)
   (ho : ops[j]? = some o) (hwn : Region.wanted o (yieldedT ops T) = true) (hop : o.op = .call { callee := .value (.func f), args := xs, argTypes := ats })
   (hf : P.funcs[f]? = some fn) (h1 : (fn.name == "runtime.NumGoroutine") = false) (h2 : fn.body.isNone = true) (h3 : Extern.findNext fn = none) (h4 : Extern.find fn = some (fun _ => pure v))
   (h : Reach P main R D K Stop b cs ds n (putT T o.dst v) (.inRegion ops is :: k0)) : Reach P main R D K Stop b cs ds (n + 1) T (.inRegion ops (j :: is) :: k0) :=
 .ctl W (fun w => by
   have := stepG_entry_pure (P := P) (main := main) (b := b) (a := ⟨T, ds⟩) (kk := k0) (cs := cs) (w := w) (rest := is) v ho (wantedA hwn) hb hop hf h1 h2 h3 h4
   rw [putA] at this
   exact this) h
end
end Go.Proofs.Ytcoppnbjpncdcaa.Q
end
section
namespace Go.Proofs.Ytcoppnbjpncdcaa.Q
open Go Go.Conc
def allMx (n : Nat) : List Mx := (List.range n).flatMap fun c => [⟨0, 0, 0, c⟩, ⟨1, 0, 0, c⟩, ⟨0, 1, 0, c⟩, ⟨1, 1, 0, c⟩, ⟨0, 0, 1, c⟩, ⟨1, 0, 1, c⟩, ⟨0, 1, 1, c⟩, ⟨1, 1, 1, c⟩]
theorem mem_all {m : Mx} (h : m.ok) {n : Nat} (hc : m.c < n) : m ∈ allMx n := by
 obtain ⟨l, k, s, c⟩ := m
 obtain ⟨h1, h2, h3⟩ := h
 simp only at h1 h2 h3 hc
 refine List.mem_flatMap.2 ⟨c, List.mem_range.2 hc, ?_⟩
 rcases (show l = 0 ∨ l = 1 by omega) with rfl | rfl <;> rcases (show k = 0 ∨ k = 1 by omega) with rfl | rfl <;> rcases (show s = 0 ∨ s = 1 by omega) with rfl | rfl <;> simp
theorem all_of {n : Nat} {p : Mx → Bool} (h : (allMx n).all p = true) {m : Mx} (hm : m.ok) (hc : m.c < n) : p m = true := List.all_eq_true.1 h m (mem_all hm hc)
theorem b_and5 {m : Mx} (hm : m.ok) (hc : m.c < 12) : bits .and .i32 (m.enc : Int) 5 = ((m.l + 4 * m.s : Nat) : Int) := by
 have := all_of (p := fun m => bits .and .i32 (m.enc : Int) 5 == ((m.l + 4 * m.s : Nat) : Int)) (n := 12) (by kernel_rfl) hm hc
 simpa using this
def newI (old : Int) (sv aw : Bool) : Int :=
 let a := if bits .and .i32 old 4 == 0 then bits .or .i32 old 1 else old
 let b := if bits .and .i32 old 5 != 0 then IntKind.i32.wrap (a + 8) else a
 let c := if sv && (bits .and .i32 old 1 != 0) then bits .or .i32 b 4 else b
 if aw then bits .andNot .i32 c 2 else c
theorem new_ok {m : Mx} (hm : m.ok) (hc : m.c < 12) (sv aw : Bool) (t : Th) (h1 : t.old = m) (h2 : t.sv = sv) (h3 : t.aw = aw) : newI m.enc sv aw = ((nw t).enc : Int) := by
 have h := all_of (p := fun m => [(true, true), (true, false), (false, true), (false, false)].all fun x => newI m.enc x.1 x.2 == ((nw { pc := .c2, old := m, sv := x.1, aw := x.2 }).enc : Int)) (n := 12) (by kernel_rfl) hm hc
 have e : nw t = nw { pc := .c2, old := m, sv := sv, aw := aw } := by unfold nw; rw [h1, h2, h3]
 rw [e]
 simp only [List.all_cons, List.all_nil, Bool.and_true, Bool.and_eq_true, beq_iff_eq] at h
 cases sv <;> cases aw
 · exact h.2.2.2
 · exact h.2.2.1
 · exact h.2.1
 · exact h.1
theorem new_k {m : Mx} (hm : m.ok) (hc : m.c < 12) (hk : m.k = 1) (sv : Bool) : (bits .and .i32 (newI m.enc sv false) 2 == 0) = false := by
 have h := all_of (p := fun m => m.k != 1 || [true, false].all fun x => (bits .and .i32 (newI m.enc x false) 2 == 0) == false) (n := 12) (by kernel_rfl) hm hc
 simp only [hk, bne_self_eq_false, Bool.false_or, List.all_cons, List.all_nil, Bool.and_true, Bool.and_eq_true, beq_iff_eq] at h
 cases sv
 · exact h.2
 · exact h.1
end Go.Proofs.Ytcoppnbjpncdcaa.Q
end
section
set_option linter.unusedVariables false
set_option linter.unusedSimpArgs false
namespace Go.Proofs.Ytcoppnbjpncdcaa.Q
open Go Go.Conc
open Go.ConcR (mk)
theorem some_ft : ((some false : Option Bool) == some true) = false := rfl
theorem some_tf : ((some true : Option Bool) == some false) = false := rfl
theorem muA_add0 (C : Cfg) : (muA C).add 0 = muA C := rfl
theorem muA_add1 (C : Cfg) : (muA C).add 1 = msA C := rfl
def snd : Code → Code | .seq _ y => y | c => c
def fst : Code → Code | .seq x _ => x | c => c
def inLp : Code → Code | .block _ (.loop x) => x | c => c
noncomputable def body106 : Code := Try.f106.body.getD .skip
noncomputable def lp106 : Code := inLp (fst (snd (snd (snd (snd (snd body106))))))
noncomputable def rest106 : Code := snd (snd (snd (snd (snd (snd body106)))))
section
variable {C : Cfg} {Kb : Nat → Prop} {i : Nat} {K : World → Prop} {Fin : Goroutine → World → Prop} {cs : List Frame}
theorem ev_none {t : Th} {C : Cfg} (h : t.pc ≠ .ld ∧ t.pc ≠ .ud ∧ t.pc ≠ .le ∧ t.pc ≠ .ue ∧ t.pc ≠ .la ∧ t.pc ≠ .ur ∧ t.pc ≠ .s1 ∧ t.pc ≠ .us) (es : Array Event) (hes : ∀ e ∈ es, ∃ x, e = ⟨.cell (muA C), x, true⟩) : EvLock C t es := by
 obtain ⟨h1, h2, h3, h4, h5, h6, h7, h8⟩ := h
 unfold EvLock
 split <;> first | contradiction | exact hes
theorem tail106 (X : Ctx C Kb i K) (hT : ∀ k T, RchL C Kb i K Fin k (at_ .ur) (base 106) cs [] 150 T []) : ∀ k T, T.size = 139 → evalT T (.tmp 0) = .pointer (some (muA C)) → RchL C Kb i K Fin k (at_ .le) (base 106) cs [] 150 T [.code rest106] := by
 intro k T hsz h0
 have e : rest106 = snd (snd (snd (snd (snd (snd body106))))) := rfl
 simp only [body106, Try.f106, Option.getD_some, snd] at e
 rw [e]
 clear e
 refine Reach.run (n := 100) X.way (by simp [base]) (offP_ok _) 50 (T' := ?T1) (k' := ?k1) ?he1 ?rest1
 case he1 =>
   simp only [evRun, evStep, zqa, Nat.zero_add, List.range, List.range.loop, List.getElem?_toArray, List.getElem?_cons_zero, Region.wanted, ↓reduceIte, evPure, evalT_const]
   rfl
 case rest1 =>
 cases k with
 | zero => exact RchL.zero
 | succ k =>
 refine RchL.mark0 (mm := .enable) X (by simp [base]) rfl rfl (by simp) rfl Try.func70 x70_n x70_b x70_x x70_f (by simp) (by simp) rfl (t' := at_ .la) (fun _ _ => .le) (by simp) fun _ => ?_
 refine Reach.run (n := 100) X.way (by simp [base]) (offP_ok _) 100 (T' := ?T2) (k' := ?k2) ?he2 ?rest2
 case he2 =>
   simp only [evRun, evStep, zqa, Nat.reduceAdd, Nat.zero_add, List.range, List.range.loop, zqb, List.getElem_toArray, List.getElem_cons_zero, Region.wanted, ↓reduceIte, evPure, evalT_put, hsz, Nat.reduceLT, reduceCtorEq, h0]
   rfl
 case rest2 =>
 refine RchL.conv X (by simp [base]) rfl rfl rfl (by simp only [evalT_put, size_putT, hsz, Nat.reduceLT, if_true]) ?_
 cases k with
 | zero => exact RchL.zero
 | succ k =>
 refine RchL.markAt (mm := .acquire) X (by simp [base]) rfl rfl (by simp) rfl Try.func83 x83_n x83_b x83_x x83_f ?hx (by simp) (by simp) rfl (t' := at_ .ur) (fun _ _ => .la) (by simp) ?_
 case hx => simp [evalT_put, size_putT, hsz]
 refine Reach.more (n := 151) (by omega) (Reach.endRegion X.way (hT k _))
def inBl : Code → Code | .block _ x => x | c => c
noncomputable def c2code : Code := snd (inBl lp106)
noncomputable def tl106 : List Item := [.inBlock 1, .inLoop lp106, .inBlock 0, .code rest106]
structure LSt (C : Cfg) (T : Array Value) (wst : Int) (t : Th) : Prop where
 size : T.size = 139
 s0 : evalT T (.tmp 0) = .pointer (some (muA C))
 s2 : evalT T (.tmp 2) = .int .i64 wst
 s3 : evalT T (.tmp 3) = .bool t.sv
 s4 : evalT T (.tmp 4) = .bool t.aw
 s5 : evalT T (.tmp 5) = .int .i64 t.it
 s6 : evalT T (.tmp 6) = .int .i32 t.old.enc
def opsOf : Code → Array Oper | .region _ o _ => o | _ => #[]
noncomputable def c2rest : Code := snd (snd (snd (snd (snd c2code))))
noncomputable def c2stop : List Item := .inRegion (opsOf (fst c2rest)) [5] :: .code (snd c2rest) :: tl106
set_option maxHeartbeats 16000000 in
set_option maxRecDepth 100000 in
theorem toC2 (X : Ctx C Kb i K) {k : Nat} {T : Array Value} {wst : Int} {t t' : Th} (h : LSt C T wst t) (ho : t.old.ok) (hc : t.old.c < 12) (hk : t.aw = true → t.old.k = 1)
   (hgo : ∀ T', LSt C T' wst t → evalT T' (.tmp 77) = .pointer (some (muA C)) → evalT T' (.tmp 78) = .int .i32 t.old.enc → evalT T' (.tmp 79) = .int .i32 (nw t).enc → RchL C Kb i K Fin k t' (base 106) cs [] 10 T' c2stop) :
   RchL C Kb i K Fin k t' (base 106) cs [] 110 T (.code c2code :: tl106) := by
 obtain ⟨hsz, h0, h2, h3, h4, h5, h6⟩ := h
 have hnew := new_ok ho hc t.sv t.aw t rfl rfl rfl
 have hck : t.aw = true → (bits .and .i32 (newI t.old.enc t.sv false) 2 == 0) = false := fun x => new_k ho hc (hk x) _
 have e : c2code = snd (inBl (inLp (fst (snd (snd (snd (snd (snd body106)))))))) := rfl
 have e2 : c2stop = .inRegion (opsOf (fst c2rest)) [5] :: .code (snd c2rest) :: tl106 := rfl
 simp only [c2rest, e, body106, Try.f106, Option.getD_some, snd, fst, inLp, inBl, opsOf] at e2
 simp only [body106, Try.f106, Option.getD_some, snd, fst, inLp, inBl] at e
 rw [e]
 rw [e2] at hgo
 clear e e2
 cases q4 : (bits .and .i32 (t.old.enc : Int) 4 == 0) <;> cases q5 : (bits .and .i32 (t.old.enc : Int) 5 != 0) <;> cases q1 : (bits .and .i32 (t.old.enc : Int) 1 != 0) <;> cases hsv : t.sv <;> cases haw : t.aw
 all_goals rw [hsv] at h3
 all_goals rw [haw] at h4
 all_goals rw [hsv, haw] at hnew
 all_goals rw [hsv] at hck
 all_goals simp only [newI, q4, q5, q1, ↓reduceIte, Bool.false_eq_true, Bool.false_and, Bool.true_and] at hnew hck
 all_goals (first | (have hck := hck haw) | skip)
 all_goals refine Reach.runs (n := 10) X.way (by simp [base]) (offP_ok _) 100 ?_
 all_goals simp only [evRun, evStep, zqa, Nat.reduceAdd, Nat.zero_add, List.range, List.range.loop, zqb, Region.wanted, ↓reduceIte, evPure, evalT_put, evalT_const, size_putT, hsz, Nat.reduceLT, Nat.reduceEqDiff, Option.bind_some, reduceCtorEq, intBin, yieldedT, beq_self_eq_true, some_ft, off71_0, muA_add0, Bool.false_eq_true, h0, h3, h4, h6, q4, q5, q1, hck]
 all_goals refine hgo _ ⟨by simp only [size_putT, hsz], ?_, ?_, ?_, ?_, ?_, ?_⟩ ?_ ?_ ?_
 all_goals simp only [evalT_put, size_putT, hsz, Nat.reduceLT, ↓reduceIte, Nat.reduceEqDiff, h0, h2, h3, h4, h5, h6, hsv, haw]
 all_goals exact congrArg (Value.int .i32) hnew
end
end Go.Proofs.Ytcoppnbjpncdcaa.Q
end
section
set_option linter.unusedVariables false
set_option linter.unusedSimpArgs false
namespace Go.Proofs.Ytcoppnbjpncdcaa.Q
open Go Go.Conc
open Go.ConcR (mk)
section
variable {C : Cfg} {Kb : Nat → Prop} {i : Nat} {K : World → Prop} {Fin : Goroutine → World → Prop} {cs : List Frame}
noncomputable def hdItems : List Item := [.code lp106, .inLoop lp106, .inBlock 0, .code rest106]
def HeadOK (C : Cfg) (Kb : Nat → Prop) (i : Nat) (K : World → Prop) (Fin : Goroutine → World → Prop) (cs : List Frame) (k : Nat) : Prop :=
 ∀ T wst t, LSt C T wst t → (t.aw = true → t.old.k = 1) → t.old.ok → t.old.c ≤ 10 → RchL C Kb i K Fin k (hd t) (base 106) cs [] 149 T hdItems
theorem HeadOK.loop (X : Ctx C Kb i K) {k : Nat} (h : HeadOK C Kb i K Fin cs k) {T : Array Value} {wst : Int} {t : Th} (hs : LSt C T wst t) (hk : t.aw = true → t.old.k = 1) (ho : t.old.ok) (hc : t.old.c ≤ 10) :
   RchL C Kb i K Fin k (hd t) (base 106) cs [] 150 T [.inLoop lp106, .inBlock 0, .code rest106] := Reach.inLoop X.way (h T wst t hs hk ho hc)
theorem hd_out (t : Th) : (hd t).pc ≠ .out := by rcases hd_or t with ⟨_, _, e⟩ | ⟨_, e⟩ <;> rw [e] <;> simp
theorem RchL.tick (X : Ctx C Kb i K) {k n : Nat} {t t' : Th} {b : Frame} {ds : List Deferred} {T : Array Value} {ops : Array Oper} {k0 : List Item} (hp1 : t.pc ≠ .s1) (hp2 : t.pc ≠ .us) (hev : EvLock C t #[]) (hv : ∀ m ms, Mv t m ms t' m ms) (hout : t'.pc ≠ .out)
   (h : RchL C Kb i K Fin k t' b cs ds 200 T k0) : RchL C Kb i K Fin (k + 1) t b cs ds n T (.inRegion ops [] :: k0) := by
 refine RchL.stop X fun w hw => ⟨rfl, rfl, fun h => absurd h hp2, fun m ms hm hf' => ⟨fun h => absurd h hp1, fun _ => ?_⟩⟩
 exact ⟨t', m, ms, _, _, _, hv m ms, stepG_region_end, hm, LockEff.refl w, hev, fun e => absurd e hout, fun _ => h _ hw⟩
theorem wrap_m11 : IntKind.i32.wrap (-7 - 4) = -11 := by decide
theorem b_shr (v : Int) : v.fdiv (2 ^ (min (3 : Int).toNat (IntKind.bits .i32))) = v.fdiv 8 := by rfl
theorem b_own {m : Mx} (hm : m.ok) (hc : m.c < 12) : ((bits .and .i32 (m.enc : Int) 5 == 0) = decide (m.l = 0 ∧ m.s = 0)) := by
 rw [b_and5 hm hc]
 by_cases h : m.l = 0 ∧ m.s = 0
 · rw [h.1, h.2]; rfl
 · rw [decide_eq_false h, beq_eq_false_iff_ne]; omega
theorem b_spin {m : Mx} (hm : m.ok) (hc : m.c < 12) : ((bits .and .i32 (m.enc : Int) 5 == 1) = decide (m.l = 1 ∧ m.s = 0)) := by
 rw [b_and5 hm hc]
 by_cases h : m.l = 1 ∧ m.s = 0
 · rw [h.1, h.2]; rfl
 · rw [decide_eq_false h, beq_eq_false_iff_ne]; obtain ⟨h1, h2, h3⟩ := hm; omega
theorem b_k {m : Mx} (hm : m.ok) (hc : m.c < 12) : ((bits .and .i32 (m.enc : Int) 2 == 0) = decide (m.k = 0)) := by
 have := all_of (p := fun m => (bits .and .i32 (m.enc : Int) 2 == 0) == decide (m.k = 0)) (n := 12) (by kernel_rfl) hm hc
 simpa using this
theorem b_s {m : Mx} (hm : m.ok) (hc : m.c < 12) : ((bits .and .i32 (m.enc : Int) 4 != 0) = decide (m.s = 1)) := by
 have := all_of (p := fun m => (bits .and .i32 (m.enc : Int) 4 != 0) == decide (m.s = 1)) (n := 12) (by kernel_rfl) hm hc
 simpa using this
theorem b_c {m : Mx} (hm : m.ok) (hc : m.c < 12) : (Int.fdiv (m.enc : Int) 8) = m.c := by
 have := all_of (p := fun m => (Int.fdiv (m.enc : Int) 8) == (m.c : Int)) (n := 12) (by kernel_rfl) hm hc
 simpa using this
theorem b_lk {m : Mx} (hm : m.ok) (hc : m.c < 12) : ((bits .and .i32 (m.enc : Int) 3 != 0) = decide ¬ (m.l = 0 ∧ m.k = 0)) := by
 have := all_of (p := fun m => (bits .and .i32 (m.enc : Int) 3 != 0) == decide ¬ (m.l = 0 ∧ m.k = 0)) (n := 12) (by kernel_rfl) hm hc
 rw [beq_iff_eq] at this
 exact this
theorem b_or2 {m : Mx} (hm : m.ok) (hc : m.c < 12) (hk : m.k = 0) : bits .or .i32 (m.enc : Int) 2 = (({ m with k := 1 } : Mx).enc : Int) := by
 have := all_of (p := fun m => m.k != 0 || bits .or .i32 (m.enc : Int) 2 == (({ m with k := 1 } : Mx).enc : Int)) (n := 12) (by kernel_rfl) hm hc
 simpa [hk] using this
theorem b_a1 {m : Mx} (hm : m.ok) (hc : m.c < 12) (hl : m.l = 0) (hk : m.k = 0) (hs : m.s = 1) (h0 : m.c ≠ 0) : IntKind.i32.wrap ((m.enc : Int) + -7) = ((⟨1, 0, 1, m.c - 1⟩ : Mx).enc : Int) ∧ IntKind.i32.wrap ((m.enc : Int) + -11) = ((⟨1, 0, 0, m.c - 1⟩ : Mx).enc : Int) := by
 have := all_of (p := fun m => m.l != 0 || m.k != 0 || m.s != 1 || m.c == 0 || (IntKind.i32.wrap ((m.enc : Int) + -7) == ((⟨1, 0, 1, m.c - 1⟩ : Mx).enc : Int) && IntKind.i32.wrap ((m.enc : Int) + -11) == ((⟨1, 0, 0, m.c - 1⟩ : Mx).enc : Int))) (n := 12) (by kernel_rfl) hm hc
 simpa [hl, hk, hs, h0] using this
def els : Code → Code | .cond _ _ y => y | c => c
def thn : Code → Code | .cond _ x _ => x | c => c
noncomputable def c27 : Code := snd (snd (snd (thn (snd c2rest))))
noncomputable def c28 : Code := snd c27
noncomputable def c29 : Code := snd c28
set_option maxHeartbeats 16000000 in
set_option maxRecDepth 100000 in
theorem at29 (X : Ctx C Kb i K) (hT : ∀ k T, RchL C Kb i K Fin k (at_ .ur) (base 106) cs [] 150 T []) {k : Nat} (ih : ∀ k', k' < k → HeadOK C Kb i K Fin cs k') {T : Array Value} {wst : Int} {t : Th} (h : LSt C T wst t) (hp : t.pc = .r2) : RchL C Kb i K Fin k t (base 106) cs [] 100 T (.code c29 :: tl106) := by
 have e : c29 = snd (snd c27) := rfl
 simp only [c27, thn, c2rest, c2code, lp106, body106, Try.f106, Option.getD_some, snd, fst, inLp, inBl] at e
 rw [e]
 clear e
 obtain ⟨hsz, h0, h2, h3, h4, h5, h6⟩ := h
 refine Reach.more (n := 50 + 50) (by omega) (Reach.runs (n := 50) X.way (by simp [base]) (offP_ok _) 50 ?_)
 simp only [evRun, evStep, zqa, Nat.reduceAdd, Nat.zero_add, List.range, List.range.loop, zqb, Region.wanted, ↓reduceIte, evPure, evalT_put, size_putT, hsz, Nat.reduceLT, off71_0, muA_add0, h0]
 cases k with
 | zero => exact RchL.zero
 | succ k =>
 refine RchL.load X (by simp [base]) rfl rfl rfl (by simp only [evalT_put, size_putT, hsz, Nat.reduceLT, ↓reduceIte]) (by kernel_rfl) (by simp [hp]) (by simp [hp]) (fun es hes => ev_none (by simp [hp]) es hes) (fun m' ms' hf' => ?_)
 have hm12 : m'.c < 12 := by have := hf'.c; omega
 have hmok := hf'.ok
 have hm2 := hf'.r2 hp
 have hmk := hf'.r2k hp
 rcases (show m'.s = 0 ∨ m'.s = 1 by have := hmok.2.2; omega) with hs | hs
 · have hmk := hmk hs
   have qs : (bits .and .i32 (m'.enc : Int) 4 != 0) = false := by rw [b_s hmok hm12, hs]; rfl
   refine ⟨_, .r2aw hp hs, hd_out _, ?_⟩
   refine Reach.more (n := 150 + 48) (by omega) (Reach.runs (n := 150) X.way (by simp [base]) (offP_ok _) 48 ?_)
   simp only [evRun, evStep, zqa, Nat.reduceAdd, Nat.zero_add, List.range, List.range.loop, zqb, zqc, Region.wanted, ↓reduceIte, evPure, evalT_put, evalT_const, size_putT, hsz, Nat.reduceLT, reduceCtorEq, intBin, tl106, qs]
   refine HeadOK.loop X (ih _ (by omega)) (wst := wst) (t := { t with old := m', aw := true, it := 0 }) ⟨by simp only [size_putT, hsz], ?_, ?_, ?_, ?_, ?_, ?_⟩ (fun _ => hmk) hmok hf'.c
   all_goals simp only [evalT_put, size_putT, hsz, Nat.reduceLT, ↓reduceIte, Nat.reduceEqDiff, h0, h2, h3]
   all_goals rfl
 · obtain ⟨hl, hk, h0c⟩ := hm2 hs
   have qs : (bits .and .i32 (m'.enc : Int) 4 != 0) = true := by rw [b_s hmok hm12, hs]; rfl
   have q3 : (bits .and .i32 (m'.enc : Int) 3 != 0) = false := by rw [b_lk hmok hm12, hl, hk]; rfl
   have q30 : ((m'.c : Int) == 0) = false := by rw [beq_eq_false_iff_ne]; omega
   have qa := b_a1 hmok hm12 hl hk hs h0c
   refine ⟨_, .r2st hp hs, by simp, ?_⟩
   have qcl : ∀ b : Bool, ((m'.c : Int) == 1) = b → (m'.c == 1) = b := fun b x => by cases b <;> simp at * <;> omega
   cases qq : ((m'.c : Int) == 1) <;> cases qv : t.sv
   all_goals rw [qv] at h3
   all_goals (refine Reach.more (n := 100 + 100) (by omega) (Reach.runs (n := 100) X.way (by simp [base]) (offP_ok _) 100 ?_); simp only [evRun, evStep, zqa, Nat.reduceAdd, Nat.zero_add, List.range, List.range.loop, zqb, zqc, Region.wanted, ↓reduceIte, evPure, evalT_put, evalT_const, size_putT, hsz, Nat.reduceLT, Nat.reduceEqDiff, Option.bind_some, reduceCtorEq, intBin, yieldedT, beq_self_eq_true, some_tf, off71_0, muA_add0, Bool.false_eq_true, Bool.not_true, Bool.not_false, tl106, h0, h3, qs, q3, q30, qq, b_shr, b_c hmok hm12, Int.reduceLT, wrap_m11])
   all_goals (cases k with | zero => exact RchL.zero | succ k => ?_)
   · refine RchL.add (d := -11) X (by simp [base]) rfl rfl rfl (by simp only [evalT_put, size_putT, hsz, Nat.reduceLT, ↓reduceIte, Nat.reduceEqDiff]) (by simp only [evalT_put, size_putT, hsz, Nat.reduceLT, ↓reduceIte]) (by simp) (by simp) (fun es hes => ev_none (by simp) es hes) (fun m'' ms'' hf'' => ?_)
     obtain ⟨a1, a2, a3, a4⟩ := hf''.a1 rfl
     have qb := b_a1 hf''.ok (by have := hf''.c; omega) a1 a2 a4 a3
     refine ⟨at_ .le, ⟨1, 0, 0, m''.c - 1⟩, ?mv, qb.2, by simp, ?_⟩
     case mv =>
       have := @Mv.a1 { t with pc := .a1, old := m', cl := (!t.sv) || m'.c == 1 } m'' ms'' rfl
       simpa [a1, a2, a4, qcl _ qq, qv] using this
     refine Reach.more (n := 150 + 2) (by omega) (Reach.runs (n := 150) X.way (by simp [base]) (offP_ok _) 2 ?_)
     simp only [evRun, evStep, exitTo, zqc, ↓reduceIte, Nat.reduceBEq, beq_self_eq_true, Bool.false_eq_true]
     refine tail106 X hT _ _ ?_ ?_
     · simp only [size_putT, hsz]
     · simp only [evalT_put, size_putT, hsz, Nat.reduceLT, ↓reduceIte, Nat.reduceEqDiff, h0]
   · refine RchL.add (d := -7) X (by simp [base]) rfl rfl rfl (by simp only [evalT_put, size_putT, hsz, Nat.reduceLT, ↓reduceIte, Nat.reduceEqDiff]) (by simp only [evalT_put, size_putT, hsz, Nat.reduceLT, ↓reduceIte]) (by simp) (by simp) (fun es hes => ev_none (by simp) es hes) (fun m'' ms'' hf'' => ?_)
     obtain ⟨a1, a2, a3, a4⟩ := hf''.a1 rfl
     have qb := b_a1 hf''.ok (by have := hf''.c; omega) a1 a2 a4 a3
     refine ⟨at_ .le, ⟨1, 0, 1, m''.c - 1⟩, ?mv, qb.1, by simp, ?_⟩
     case mv =>
       have := @Mv.a1 { t with pc := .a1, old := m', cl := (!t.sv) || m'.c == 1 } m'' ms'' rfl
       simpa [a1, a2, a4, qcl _ qq, qv] using this
     refine Reach.more (n := 150 + 2) (by omega) (Reach.runs (n := 150) X.way (by simp [base]) (offP_ok _) 2 ?_)
     simp only [evRun, evStep, exitTo, zqc, ↓reduceIte, Nat.reduceBEq, beq_self_eq_true, Bool.false_eq_true]
     refine tail106 X hT _ _ ?_ ?_
     · simp only [size_putT, hsz]
     · simp only [evalT_put, size_putT, hsz, Nat.reduceLT, ↓reduceIte, Nat.reduceEqDiff, h0]
   · refine RchL.add (d := -11) X (by simp [base]) rfl rfl rfl (by simp only [evalT_put, size_putT, hsz, Nat.reduceLT, ↓reduceIte, Nat.reduceEqDiff]) (by simp only [evalT_put, size_putT, hsz, Nat.reduceLT, ↓reduceIte]) (by simp) (by simp) (fun es hes => ev_none (by simp) es hes) (fun m'' ms'' hf'' => ?_)
     obtain ⟨a1, a2, a3, a4⟩ := hf''.a1 rfl
     have qb := b_a1 hf''.ok (by have := hf''.c; omega) a1 a2 a4 a3
     refine ⟨at_ .le, ⟨1, 0, 0, m''.c - 1⟩, ?mv, qb.2, by simp, ?_⟩
     case mv =>
       have := @Mv.a1 { t with pc := .a1, old := m', cl := (!t.sv) || m'.c == 1 } m'' ms'' rfl
       simpa [a1, a2, a4, qcl _ qq, qv] using this
     refine Reach.more (n := 150 + 2) (by omega) (Reach.runs (n := 150) X.way (by simp [base]) (offP_ok _) 2 ?_)
     simp only [evRun, evStep, exitTo, zqc, ↓reduceIte, Nat.reduceBEq, beq_self_eq_true, Bool.false_eq_true]
     refine tail106 X hT _ _ ?_ ?_
     · simp only [size_putT, hsz]
     · simp only [evalT_put, size_putT, hsz, Nat.reduceLT, ↓reduceIte, Nat.reduceEqDiff, h0]
   · refine RchL.add (d := -11) X (by simp [base]) rfl rfl rfl (by simp only [evalT_put, size_putT, hsz, Nat.reduceLT, ↓reduceIte, Nat.reduceEqDiff]) (by simp only [evalT_put, size_putT, hsz, Nat.reduceLT, ↓reduceIte]) (by simp) (by simp) (fun es hes => ev_none (by simp) es hes) (fun m'' ms'' hf'' => ?_)
     obtain ⟨a1, a2, a3, a4⟩ := hf''.a1 rfl
     have qb := b_a1 hf''.ok (by have := hf''.c; omega) a1 a2 a4 a3
     refine ⟨at_ .le, ⟨1, 0, 0, m''.c - 1⟩, ?mv, qb.2, by simp, ?_⟩
     case mv =>
       have := @Mv.a1 { t with pc := .a1, old := m', cl := (!t.sv) || m'.c == 1 } m'' ms'' rfl
       simpa [a1, a2, a4, qcl _ qq, qv] using this
     refine Reach.more (n := 150 + 2) (by omega) (Reach.runs (n := 150) X.way (by simp [base]) (offP_ok _) 2 ?_)
     simp only [evRun, evStep, exitTo, zqc, ↓reduceIte, Nat.reduceBEq, beq_self_eq_true, Bool.false_eq_true]
     refine tail106 X hT _ _ ?_ ?_
     · simp only [size_putT, hsz]
     · simp only [evalT_put, size_putT, hsz, Nat.reduceLT, ↓reduceIte, Nat.reduceEqDiff, h0]
set_option maxHeartbeats 16000000 in
set_option maxRecDepth 100000 in
theorem at28 (X : Ctx C Kb i K) (hT : ∀ k T, RchL C Kb i K Fin k (at_ .ur) (base 106) cs [] 150 T []) {k : Nat} (ih : ∀ k', k' < k → HeadOK C Kb i K Fin cs k') {T : Array Value} {wst : Int} {t : Th} (h : LSt C T wst t) (hp : t.pc = .t2) (ops : Array Oper) : RchL C Kb i K Fin k t (base 106) cs [] 200 T (.inRegion ops [] :: .code c28 :: tl106) := by
 have e : c28 = .seq (fst (snd c27)) c29 := rfl
 simp only [c27, thn, c2rest, c2code, lp106, body106, Try.f106, Option.getD_some, snd, fst, inLp, inBl] at e
 rw [e]
 clear e
 obtain ⟨hsz, h0, h2, h3, h4, h5, h6⟩ := h
 cases qv : t.sv with
 | true =>
   cases k with
   | zero => exact RchL.zero
   | succ k =>
   refine RchL.tick X (t' := { t with pc := .r2, sv := t.sv || true }) (by simp [hp]) (by simp [hp]) (by simp [EvLock, hp]) (fun m ms => .t2 true hp) (by simp) ?_
   rw [qv] at h3
   refine Reach.more (n := 100 + 11) (by omega) (Reach.runs (n := 100) X.way (by simp [base]) (offP_ok _) 11 ?_)
   simp only [evRun, evStep, zqa, Nat.reduceAdd, Nat.zero_add, List.range, List.range.loop, zqb, Region.wanted, ↓reduceIte, evPure, evalT_put, evalT_const, size_putT, hsz, Nat.reduceLT, Nat.reduceEqDiff, Option.bind_some, yieldedT, some_tf, Bool.false_eq_true, h3]
   refine at29 X hT (fun k' h' => ih k' (by omega)) (wst := wst) ⟨by simp only [size_putT, hsz], ?_, ?_, ?_, ?_, ?_, ?_⟩ rfl
   all_goals simp only [evalT_put, size_putT, hsz, Nat.reduceLT, ↓reduceIte, Nat.reduceEqDiff, h0, h2, h4, h5, h6]
   all_goals first | rfl | simp
 | false =>
   rw [qv] at h3
   refine Reach.more (n := 100 + 100) (by omega) (Reach.runs (n := 100) X.way (by simp [base]) (offP_ok _) 100 ?_)
   simp only [evRun, evStep, zqa, Nat.reduceAdd, Nat.zero_add, List.range, List.range.loop, zqb, Region.wanted, ↓reduceIte, evPure, evalT_put, size_putT, hsz, Nat.reduceLT, Option.bind_some, yieldedT, beq_self_eq_true, h3]
   cases k with
   | zero => exact RchL.zero
   | succ k =>
   refine RchL.nano X (by simp [base]) rfl (by simp only [zqb, zqc, Region.wanted, ↓reduceIte, evalT_put, size_putT, hsz, Nat.reduceLT, Option.bind_some, yieldedT, beq_self_eq_true]) rfl (by simp [hp]) (by simp [hp]) (by simp [EvLock, hp]) (fun v => ⟨{ t with pc := .r2, sv := t.sv || decide (IntKind.i64.wrap (v - wst) > 1000000) }, fun m ms => .t2 _ hp, by simp, ?_⟩)
   refine Reach.more (n := 100 + 6) (by omega) (Reach.runs (n := 100) X.way (by simp [base]) (offP_ok _) 6 ?_)
   simp only [evRun, evStep, zqb, zqc, Region.wanted, ↓reduceIte, evPure, evalT_put, evalT_const, size_putT, hsz, Nat.reduceLT, Nat.reduceEqDiff, Option.bind_some, reduceCtorEq, intBin, yieldedT, beq_self_eq_true, Bool.false_eq_true, h2]
   refine at29 X hT (fun k' h' => ih k' (by omega)) (wst := wst) ⟨by simp only [size_putT, hsz], ?_, ?_, ?_, ?_, ?_, ?_⟩ rfl
   all_goals simp only [evalT_put, size_putT, hsz, Nat.reduceLT, ↓reduceIte, Nat.reduceEqDiff, h0, h2, h4, h5, h6]
   all_goals simp [qv]
set_option maxHeartbeats 16000000 in
set_option maxRecDepth 100000 in
theorem at27 (X : Ctx C Kb i K) (hT : ∀ k T, RchL C Kb i K Fin k (at_ .ur) (base 106) cs [] 150 T []) {k : Nat} (ih : ∀ k', k' < k → HeadOK C Kb i K Fin cs k') {T : Array Value} {wst : Int} {t : Th} (h : LSt C T wst t) (hp : t.pc = .s1) (h8 : ∃ b, evalT T (.tmp 8) = .bool b) : RchL C Kb i K Fin k t (base 106) cs [] 100 T (.code c27 :: tl106) := by
 have e : c27 = .seq (fst (snd (snd (snd (thn (snd c2rest)))))) c28 := rfl
 simp only [thn, c2rest, c2code, lp106, body106, Try.f106, Option.getD_some, snd, fst, inLp, inBl] at e
 rw [e]
 clear e
 obtain ⟨hsz, h0, h2, h3, h4, h5, h6⟩ := h
 refine Reach.more (n := 50 + 50) (by omega) (Reach.runs (n := 50) X.way (by simp [base]) (offP_ok _) 50 ?_)
 simp only [evRun, evStep, zqa, Nat.reduceAdd, Nat.zero_add, List.range, List.range.loop, zqb, Region.wanted, ↓reduceIte, evPure, evalT_put, size_putT, hsz, Nat.reduceLT, Nat.reduceEqDiff, off71_1, muA_add1, h0]
 cases k with
 | zero => exact RchL.zero
 | succ k =>
 refine RchL.acq X (by simp [base]) rfl rfl rfl ?hx1 hp ?_
 case hx1 => simp [evalT_put, size_putT, hsz]
 refine at28 X hT (fun k' h' => ih k' (by omega)) (wst := wst) (t := { t with pc := .t2 }) ⟨by simp only [size_putT, hsz], ?_, ?_, ?_, ?_, ?_, ?_⟩ rfl _
 all_goals simp only [zqc, ↓reduceIte, evalT_put, size_putT, hsz, Nat.reduceLT, Nat.reduceEqDiff, reduceCtorEq, h0, h2, h3, h4, h5, h6]
set_option maxHeartbeats 16000000 in
set_option maxRecDepth 100000 in
theorem atC2 (X : Ctx C Kb i K) (hT : ∀ k T, RchL C Kb i K Fin k (at_ .ur) (base 106) cs [] 150 T []) {k : Nat} (ih : ∀ k', k' < k → HeadOK C Kb i K Fin cs k') {T : Array Value} {wst : Int} {t : Th} (h : LSt C T wst t) (hp : t.pc = .c2) (ho : t.old.ok) (hc : t.old.c ≤ 10)
   (h77 : evalT T (.tmp 77) = .pointer (some (muA C))) (h78 : evalT T (.tmp 78) = .int .i32 t.old.enc) (h79 : evalT T (.tmp 79) = .int .i32 (nw t).enc) : RchL C Kb i K Fin k t (base 106) cs [] 10 T c2stop := by
 have e3 : snd (snd (snd (thn (snd c2rest)))) = c27 := rfl
 have e2 : c2stop = .inRegion (opsOf (fst c2rest)) [5] :: .code (.cond (.tmp 80) (.seq (fst (thn (snd c2rest))) (.seq (fst (snd (thn (snd c2rest)))) (.seq (fst (snd (snd (thn (snd c2rest))))) c27))) (els (snd c2rest))) :: tl106 := rfl
 simp only [c2rest, c2code, lp106, body106, Try.f106, Option.getD_some, snd, fst, inLp, inBl, opsOf, thn, els] at e2
 rw [e2]
 clear e2 e3
 cases k with
 | zero => exact RchL.zero
 | succ k =>
 obtain ⟨hsz, h0, h2, h3, h4, h5, h6⟩ := h
 refine RchL.cas X (by simp [base]) rfl rfl rfl h77 h78 h79 (by rw [hp]; simp) (by rw [hp]; simp) (fun es hes => ev_none (by rw [hp]; simp) es hes) (fun m ms hf he => ?hit) (fun m ms hf he => ?miss)
 case hit =>
   obtain rfl : m = t.old := Mx.enc_inj hf.ok ho he
   have hc12 : t.old.c < 12 := by omega
   cases q : decide (t.old.l = 0 ∧ t.old.s = 0) with
   | true =>
     have q' := of_decide_eq_true q
     refine ⟨at_ .le, nw t, .c2own hp rfl q'.1 q'.2, rfl, by simp, ?_⟩
     refine Reach.more (n := 150 + 11) (by omega) (Reach.runs (n := 150) X.way (by simp [base]) (offP_ok _) 11 ?_)
     simp only [evRun, evStep, exitTo, zqa, Nat.reduceAdd, Nat.zero_add, List.range, List.range.loop, zqb, zqc, Region.wanted, ↓reduceIte, evPure, evalT_put, evalT_const, size_putT, hsz, Nat.reduceLT, Nat.reduceEqDiff, Nat.reduceBEq, reduceCtorEq, intBin, beq_self_eq_true, Bool.false_eq_true, tl106, h6, b_own ho hc12, q]
     refine tail106 X hT _ _ ?_ ?_
     · simp only [size_putT, hsz]
     · simp only [evalT_put, size_putT, hsz, Nat.reduceLT, ↓reduceIte, Nat.reduceEqDiff, h0]
   | false =>
     have q' := of_decide_eq_false q
     cases qw : (wst == 0) with
     | true =>
       have qn : (wst != 0) = false := by simpa [bne] using qw
       refine ⟨{ t with pc := .t1 }, nw t, .c2t1 hp rfl q', rfl, by simp, ?_⟩
       refine Reach.more (n := 100 + 100) (by omega) (Reach.runs (n := 100) X.way (by simp [base]) (offP_ok _) 100 ?_)
       simp only [evRun, evStep, zqa, Nat.reduceAdd, Nat.zero_add, List.range, List.range.loop, zqb, zqc, Region.wanted, ↓reduceIte, evPure, evalT_put, evalT_const, size_putT, hsz, Nat.reduceLT, Nat.reduceEqDiff, reduceCtorEq, intBin, h2, h6, b_own ho hc12, q, qw, qn]
       cases k with
       | zero => exact RchL.zero
       | succ k =>
       refine RchL.nano X (by simp [base]) rfl rfl rfl (by simp) (by simp) (by simp [EvLock]) (fun v => ⟨{ t with pc := .s1 }, fun m ms => .t1 rfl, by simp, ?_⟩)
       refine Reach.more (n := 100 + 2) (by omega) (Reach.runs (n := 100) X.way (by simp [base]) (offP_ok _) 2 ?_)
       simp only [evRun, evStep, zqb, List.getElem_toArray, List.getElem_cons_zero, Region.wanted, ↓reduceIte, evPure, evalT_put, size_putT, hsz, Nat.reduceLT]
       refine at27 X hT (fun k' h' => ih k' (by omega)) (wst := v) ⟨by simp only [size_putT, hsz], ?_, ?_, ?_, ?_, ?_, ?_⟩ rfl ?_
       all_goals simp only [evalT_put, size_putT, hsz, Nat.reduceLT, ↓reduceIte, Nat.reduceEqDiff, h0, h3, h4, h5, h6]
       exact ⟨_, rfl⟩
     | false =>
       have qn : (wst != 0) = true := by simpa [bne] using qw
       refine ⟨{ t with pc := .s1 }, nw t, .c2s1 hp rfl q', rfl, by simp, ?_⟩
       refine Reach.more (n := 100 + 25) (by omega) (Reach.runs (n := 100) X.way (by simp [base]) (offP_ok _) 25 ?_)
       simp only [evRun, evStep, zqa, Nat.reduceAdd, Nat.zero_add, List.range, List.range.loop, zqb, zqc, Region.wanted, ↓reduceIte, evPure, evalT_put, evalT_const, size_putT, hsz, Nat.reduceLT, Nat.reduceEqDiff, reduceCtorEq, intBin, h2, h6, b_own ho hc12, q, qw, qn]
       refine at27 X hT (fun k' h' => ih k' (by omega)) (wst := wst) ⟨by simp only [size_putT, hsz], ?_, ?_, ?_, ?_, ?_, ?_⟩ rfl ?_
       all_goals simp only [evalT_put, size_putT, hsz, Nat.reduceLT, ↓reduceIte, Nat.reduceEqDiff, h0, h2, h3, h4, h5, h6]
       exact ⟨_, rfl⟩
 case miss =>
   refine ⟨{ t with pc := .r3 }, .c2miss hp (fun x => he (by rw [x])), by simp, ?_⟩
   refine Reach.more (n := 100 + 100) (by omega) (Reach.runs (n := 100) X.way (by simp [base]) (offP_ok _) 100 ?_)
   simp only [evRun, evStep, zqa, Nat.reduceAdd, Nat.zero_add, List.range, List.range.loop, zqb, zqc, Region.wanted, ↓reduceIte, evPure, evalT_put, size_putT, hsz, Nat.reduceLT, reduceCtorEq, off71_0, muA_add0, tl106, h0]
   cases k with
   | zero => exact RchL.zero
   | succ k =>
   refine RchL.load X (by simp [base]) rfl rfl rfl (by simp only [evalT_put, size_putT, hsz, Nat.reduceLT, ↓reduceIte]) (by kernel_rfl) (by simp) (by simp) (fun es hes => ev_none (by simp) es hes) (fun m' ms' hf' => ?_)
   refine ⟨hd { t with old := m' }, .r3 rfl, by rcases hd_or { t with old := m' } with ⟨_, _, e⟩ | ⟨_, e⟩ <;> rw [e] <;> simp, ?_⟩
   refine Reach.more (n := 150 + 50) (by omega) (Reach.runs (n := 150) X.way (by simp [base]) (offP_ok _) 50 ?_)
   simp only [evRun, evStep, zqb, zqc, Region.wanted, ↓reduceIte, evPure, evalT_put, size_putT, hsz, Nat.reduceLT]
   refine HeadOK.loop X (ih k (by omega)) (wst := wst) (t := { t with old := m' }) ⟨by simp only [size_putT, hsz], ?_, ?_, ?_, ?_, ?_, ?_⟩ (hf'.awk rfl) hf'.ok hf'.c
   all_goals simp only [evalT_put, size_putT, hsz, Nat.reduceLT, ↓reduceIte, Nat.reduceEqDiff, h0, h2, h3, h4, h5]
noncomputable def c8 : Code := snd (thn (snd (fst (inBl lp106))))
theorem wrap_it {n : Nat} (h : n < 4) : IntKind.i64.wrap ((n : Int) + 1) = ((n + 1 : Nat) : Int) := by
 rcases n with _ | _ | _ | _ | n
 · rfl
 · rfl
 · rfl
 · rfl
 · omega
set_option maxHeartbeats 16000000 in
set_option maxRecDepth 100000 in
theorem at8 (X : Ctx C Kb i K) (hT : ∀ k T, RchL C Kb i K Fin k (at_ .ur) (base 106) cs [] 150 T []) {k : Nat} (ih : ∀ k', k' < k → HeadOK C Kb i K Fin cs k') {T : Array Value} {wst : Int} {t : Th} (h : LSt C T wst t) (hp : t.pc = .r1) (hit : t.it < 4) : RchL C Kb i K Fin k t (base 106) cs [] 100 T (.code c8 :: .code c2code :: tl106) := by
 have e : c8 = snd (thn (snd (fst (inBl (inLp (fst (snd (snd (snd (snd (snd body106)))))))))) ) := rfl
 simp only [body106, Try.f106, Option.getD_some, snd, fst, inLp, inBl, thn] at e
 rw [e]
 clear e
 obtain ⟨hsz, h0, h2, h3, h4, h5, h6⟩ := h
 refine Reach.more (n := 90 + 10) (by omega) (Reach.runs (n := 90) X.way (by simp [base]) (offP_ok _) 10 ?_)
 simp only [evRun, evStep, zqa, Nat.zero_add, List.range, List.range.loop, List.getElem?_toArray, List.getElem?_cons_zero, Region.wanted, ↓reduceIte, evPure]
 refine Reach.more (n := 89 + 1) (by omega) (Reach.nothing X.way (by simp [base]) _ rfl rfl rfl Try.func110 x110_n x110_b x110_x x110_f ?_)
 refine Reach.more (n := 50 + 39) (by omega) (Reach.runs (n := 50) X.way (by simp [base]) (offP_ok _) 39 ?_)
 simp only [evRun, evStep, zqa, Nat.reduceAdd, Nat.zero_add, List.range, List.range.loop, zqb, List.getElem_toArray, List.getElem_cons_zero, Region.wanted, ↓reduceIte, evPure, evalT_put, evalT_const, size_putT, hsz, Nat.reduceLT, Nat.reduceEqDiff, reduceCtorEq, intBin, off71_0, muA_add0, h0, h5, wrap_it hit]
 cases k with
 | zero => exact RchL.zero
 | succ k =>
 refine RchL.load X (by simp [base]) rfl rfl rfl (by simp only [↓reduceIte, evalT_put, size_putT, hsz, Nat.reduceLT]) (by kernel_rfl) (by simp [hp]) (by simp [hp]) (fun es hes => ev_none (by simp [hp]) es hes) (fun m' ms' hf' => ?_)
 refine ⟨hd { t with old := m', it := t.it + 1 }, .r1 hp, hd_out _, ?_⟩
 refine Reach.more (n := 150 + 50) (by omega) (Reach.runs (n := 150) X.way (by simp [base]) (offP_ok _) 50 ?_)
 simp only [evRun, evStep, exitTo, zqb, zqc, Region.wanted, ↓reduceIte, evPure, evalT_put, size_putT, hsz, Nat.reduceLT, beq_self_eq_true, tl106]
 refine HeadOK.loop X (ih k (by omega)) (wst := wst) (t := { t with old := m', it := t.it + 1 }) ⟨by simp only [size_putT, hsz], ?_, ?_, ?_, ?_, ?_, ?_⟩ (hf'.awk (by rw [hp]; rfl)) hf'.ok hf'.c
 all_goals simp only [↓reduceIte, evalT_put, size_putT, hsz, Nat.reduceLT, Nat.reduceEqDiff, reduceCtorEq, h0, h2, h3, h4]
set_option maxHeartbeats 16000000 in
set_option maxRecDepth 100000 in
theorem headOK (X : Ctx C Kb i K) (hT : ∀ k T, RchL C Kb i K Fin k (at_ .ur) (base 106) cs [] 150 T []) {k : Nat} (ih : ∀ k', k' < k → HeadOK C Kb i K Fin cs k') : HeadOK C Kb i K Fin cs k := by
 intro T wst t h hk ho hc
 have hc12 : t.old.c < 12 := by omega
 have toC : ∀ k', k' ≤ k → ∀ T, LSt C T wst t → RchL C Kb i K Fin k' { t with pc := .c2 } (base 106) cs [] 110 T (.code c2code :: tl106) := fun k' hk' T h =>
   toC2 X h ho hc12 hk fun T' h' h77 h78 h79 => atC2 X hT (fun k'' x => ih k'' (by omega)) (t := { t with pc := .c2 }) ⟨h'.1, h'.2, h'.3, h'.4, h'.5, h'.6, h'.7⟩ rfl ho hc h77 h78 h79
 have e : hdItems = [.code (.block 1 (.seq (.seq (fst (fst (inBl (inLp (fst (snd (snd (snd (snd (snd body106)))))))))) (.cond (.tmp 20) (.seq (fst (thn (snd (fst (inBl (inLp (fst (snd (snd (snd (snd (snd body106)))))))))))) c8) (els (snd (fst (inBl (inLp (fst (snd (snd (snd (snd (snd body106))))))))))))) c2code)), .inLoop lp106, .inBlock 0, .code rest106] := rfl
 simp only [body106, Try.f106, Option.getD_some, snd, fst, inLp, inBl, thn, els] at e
 rw [e]
 clear e
 have hh := h
 obtain ⟨hsz, h0, h2, h3, h4, h5, h6⟩ := h
 rcases hd_or t with ⟨q1, q2, eh⟩ | ⟨q1, eh⟩
 · rw [eh]
   have qs : (bits .and .i32 (t.old.enc : Int) 5 == 1) = true := by rw [b_spin ho hc12]; exact decide_eq_true ⟨q1, q2⟩
   refine Reach.more (n := 49 + 100) (by omega) (Reach.runs (n := 49) X.way (by simp [base]) (offP_ok _) 100 ?_)
   simp only [evRun, evStep, zqa, Nat.reduceAdd, Nat.zero_add, List.range, List.range.loop, zqb, Region.wanted, ↓reduceIte, evPure, evalT_put, evalT_const, size_putT, hsz, Nat.reduceLT, Nat.reduceEqDiff, Option.bind_some, reduceCtorEq, intBin, yieldedT, beq_self_eq_true, h5, h6, qs]
   cases k with
   | zero => exact RchL.zero
   | succ k =>
   refine RchL.spin X (it := t.it) (by simp [base]) rfl (by simp only [zqb, zqc, Region.wanted, ↓reduceIte, evalT_put, size_putT, hsz, Nat.reduceLT, Nat.reduceEqDiff, Option.bind_some, yieldedT, beq_self_eq_true]) rfl (by simp only [↓reduceIte, evalT_put, size_putT, hsz, Nat.reduceLT]) (by simp) (by simp) (by simp [EvLock]) ⟨{ t with pc := .c2 }, fun m ms => .sqno rfl, by simp, ?_⟩ (fun hit => ?_)
   · skip
     refine Reach.more (n := 110 + 4) (by omega) (Reach.runs (n := 110) X.way (by simp [base]) (offP_ok _) 4 ?_)
     simp only [evRun, evStep, zqb, zqc, Region.wanted, ↓reduceIte, evPure, evalT_put, size_putT, hsz, Nat.reduceLT, Nat.reduceEqDiff]
     refine toC k (by omega) _ ⟨by simp only [size_putT, hsz], ?_, ?_, ?_, ?_, ?_, ?_⟩
     all_goals simp only [↓reduceIte, evalT_put, size_putT, hsz, Nat.reduceLT, Nat.reduceEqDiff, reduceCtorEq, h0, h2, h3, h4, h5, h6]
   · have qk := b_k ho hc12
     have hit' : t.it < 4 := by omega
     have qc : (((t.old.c : Nat) : Int) != 0) = decide (t.old.c ≠ 0) := by
       by_cases x : t.old.c = 0
       · rw [x]; rfl
       · rw [decide_eq_true x]; simpa [bne] using x
     by_cases q : t.aw = false ∧ t.old.k = 0 ∧ t.old.c ≠ 0
     · obtain ⟨a1, a2, a3⟩ := q
       have qor := b_or2 ho hc12 a2
       rw [a1] at h4
       rw [decide_eq_true a2] at qk
       rw [decide_eq_true a3] at qc
       refine ⟨{ t with pc := .c1 }, fun m ms _ => .sqc1 rfl hit' a1 a2 a3, by simp, ?_⟩
       refine Reach.more (n := 100 + 100) (by omega) (Reach.runs (n := 100) X.way (by simp [base]) (offP_ok _) 100 ?_)
       simp only [evRun, evStep, zqa, Nat.reduceAdd, Nat.zero_add, List.range, List.range.loop, zqb, zqc, Region.wanted, ↓reduceIte, evPure, evalT_put, evalT_const, size_putT, hsz, Nat.reduceLT, Nat.reduceEqDiff, Option.bind_some, reduceCtorEq, intBin, yieldedT, beq_self_eq_true, off71_0, muA_add0, Bool.not_false, h0, h4, h6, qk, qc, b_shr, b_c ho hc12, Int.reduceLT, qor]
       cases k with
       | zero => exact RchL.zero
       | succ k =>
       refine RchL.cas (ov := t.old.enc) (nv := ({ t.old with k := 1 } : Mx).enc) X (by simp [base]) rfl (by simp only [zqb, zqc, Region.wanted, ↓reduceIte, evalT_put, size_putT, hsz, Nat.reduceLT, Nat.reduceEqDiff, Option.bind_some, yieldedT, beq_self_eq_true]) rfl (by simp only [↓reduceIte, evalT_put, size_putT, hsz, Nat.reduceLT, Nat.reduceEqDiff]) (by simp only [↓reduceIte, evalT_put, size_putT, hsz, Nat.reduceLT, Nat.reduceEqDiff]) (by simp only [↓reduceIte, evalT_put, size_putT, hsz, Nat.reduceLT]) (by simp) (by simp) (fun es hes => ev_none (by simp) es hes) (fun m ms hf he => ?_) (fun m ms hf he => ?_)
       · obtain rfl : m = t.old := Mx.enc_inj hf.ok ho he
         refine ⟨{ t with pc := .r1, aw := true }, { t.old with k := 1 }, .c1hit rfl rfl, rfl, by simp, ?_⟩
         refine Reach.more (n := 100 + 6) (by omega) (Reach.runs (n := 100) X.way (by simp [base]) (offP_ok _) 6 ?_)
         simp only [evRun, evStep, zqa, Nat.zero_add, List.range, List.range.loop, zqb, zqc, Region.wanted, ↓reduceIte, evPure, evalT_put, evalT_const, size_putT, hsz, Nat.reduceLT, Nat.reduceEqDiff]
         refine at8 X hT (fun k' h' => ih k' (by omega)) (wst := wst) (t := { t with pc := .r1, aw := true }) ⟨by simp only [size_putT, hsz], ?_, ?_, ?_, ?_, ?_, ?_⟩ rfl hit'
         all_goals simp only [↓reduceIte, evalT_put, size_putT, hsz, Nat.reduceLT, Nat.reduceEqDiff, reduceCtorEq, h0, h2, h3, h5, h6]
       · refine ⟨{ t with pc := .r1 }, .c1miss rfl (fun x => he (by rw [x])), by simp, ?_⟩
         refine Reach.more (n := 100 + 4) (by omega) (Reach.runs (n := 100) X.way (by simp [base]) (offP_ok _) 4 ?_)
         simp only [evRun, evStep, zqb, zqc, Region.wanted, ↓reduceIte, evPure, evalT_put, size_putT, hsz, Nat.reduceLT, Nat.reduceEqDiff]
         refine at8 X hT (fun k' h' => ih k' (by omega)) (wst := wst) (t := { t with pc := .r1 }) ⟨by simp only [size_putT, hsz], ?_, ?_, ?_, ?_, ?_, ?_⟩ rfl hit'
         all_goals simp only [↓reduceIte, evalT_put, size_putT, hsz, Nat.reduceLT, Nat.reduceEqDiff, reduceCtorEq, h0, h2, h3, h4, h5, h6]
         rw [a1]
     · refine ⟨{ t with pc := .r1 }, fun m ms _ => .sqr1 rfl hit' q, by simp, ?_⟩
       cases haw : t.aw <;> cases hk0 : decide (t.old.k = 0) <;> cases hc0 : decide (t.old.c ≠ 0)
       all_goals rw [haw] at h4
       all_goals rw [hk0] at qk
       all_goals rw [hc0] at qc
       all_goals first
         | (exfalso; exact q ⟨haw, of_decide_eq_true hk0, of_decide_eq_true hc0⟩)
         | ((refine Reach.more (n := 100 + 30) (by omega) (Reach.runs (n := 100) X.way (by simp [base]) (offP_ok _) 30 ?_); simp only [evRun, evStep, zqa, Nat.reduceAdd, Nat.zero_add, List.range, List.range.loop, zqb, zqc, Region.wanted, ↓reduceIte, evPure, evalT_put, evalT_const, size_putT, hsz, Nat.reduceLT, Nat.reduceEqDiff, Option.bind_some, reduceCtorEq, intBin, yieldedT, beq_self_eq_true, some_ft, Bool.false_eq_true, Bool.not_true, Bool.not_false, h4, h6, qk, qc, b_shr, b_c ho hc12, Int.reduceLT])
            refine at8 X hT (fun k' h' => ih k' (by omega)) (wst := wst) (t := { t with pc := .r1, aw := _ }) ⟨by simp only [size_putT, hsz], ?_, ?_, ?_, ?_, ?_, ?_⟩ rfl hit'
            all_goals simp only [↓reduceIte, evalT_put, size_putT, hsz, Nat.reduceLT, Nat.reduceEqDiff, reduceCtorEq, h0, h2, h3, h4, h5, h6])
 · rw [eh]
   have qs : (bits .and .i32 (t.old.enc : Int) 5 == 1) = false := by rw [b_spin ho hc12]; exact decide_eq_false q1
   refine Reach.more (n := 110 + 14) (by omega) (Reach.runs (n := 110) X.way (by simp [base]) (offP_ok _) 14 ?_)
   simp only [evRun, evStep, zqa, Nat.reduceAdd, Nat.zero_add, List.range, List.range.loop, zqb, Region.wanted, ↓reduceIte, evPure, evalT_put, evalT_const, size_putT, hsz, Nat.reduceLT, Nat.reduceEqDiff, Option.bind_some, reduceCtorEq, intBin, yieldedT, some_ft, Bool.false_eq_true, h6, qs]
   refine toC k (by omega) _ ⟨by simp only [size_putT, hsz], ?_, ?_, ?_, ?_, ?_, ?_⟩
   all_goals simp only [↓reduceIte, evalT_put, size_putT, hsz, Nat.reduceLT, Nat.reduceEqDiff, reduceCtorEq, h0, h2, h3, h4, h5, h6]
theorem headAll (X : Ctx C Kb i K) (hT : ∀ k T, RchL C Kb i K Fin k (at_ .ur) (base 106) cs [] 150 T []) (k : Nat) : HeadOK C Kb i K Fin cs k :=
 Nat.strongRecOn k fun k ih => headOK X hT ih
end
end Go.Proofs.Ytcoppnbjpncdcaa.Q
end
section
set_option linter.unusedVariables false
set_option linter.unusedSimpArgs false
namespace Go.Proofs.Ytcoppnbjpncdcaa.Q
open Go Go.Conc
open Go.ConcR (mk)
section
variable {C : Cfg} {Kb : Nat → Prop} {i : Nat} {K : World → Prop} {Fin : Goroutine → World → Prop} {cs : List Frame}
theorem size_slots (xs : Array Value) (n : Nat) (h : xs.size ≤ n) : (xs ++ Array.replicate (n - xs.size) undef).size = n := by simp; omega
theorem evalT_slots (xs : Array Value) (n : Nat) (j : Nat) (h : j < xs.size) : evalT (xs ++ Array.replicate n undef) (.tmp j) = xs[j] := by
 simp only [evalT, Array.getD_eq_getD_getElem?]
 rw [Array.getElem?_append_left h]
 simp [h]
set_option maxHeartbeats 16000000 in
set_option maxRecDepth 100000 in
theorem at106 (X : Ctx C Kb i K) (hT : ∀ k T, RchL C Kb i K Fin k (at_ .ur) (base 106) cs [] 150 T []) {k : Nat} {T : Array Value} (hsz : T.size = 139) (h0 : evalT T (.tmp 0) = .pointer (some (muA C))) : RchL C Kb i K Fin k (at_ .r0) (base 106) cs [] 100 T [.code body106] := by
 have e : body106 = .seq (fst body106) (.seq (fst (snd body106)) (.seq (fst (snd (snd body106))) (.seq (fst (snd (snd (snd body106)))) (.seq (fst (snd (snd (snd (snd body106))))) (.seq (.block 0 (.loop lp106)) rest106))))) := rfl
 have e1 : fst body106 = fst (Try.f106.body.getD .skip) := rfl
 have e2 : fst (snd body106) = fst (snd (Try.f106.body.getD .skip)) := rfl
 have e3 : fst (snd (snd body106)) = fst (snd (snd (Try.f106.body.getD .skip))) := rfl
 have e4 : fst (snd (snd (snd body106))) = fst (snd (snd (snd (Try.f106.body.getD .skip)))) := rfl
 have e5 : fst (snd (snd (snd (snd body106)))) = fst (snd (snd (snd (snd (Try.f106.body.getD .skip))))) := rfl
 rw [e, e1, e2, e3, e4, e5]
 clear e e1 e2 e3 e4 e5
 simp only [Try.f106, Option.getD_some, snd, fst]
 refine Reach.more (n := 20 + 80) (by omega) (Reach.runs (n := 20) X.way (by simp [base]) (offP_ok _) 80 ?_)
 simp only [evRun, evStep, zqa, Nat.reduceAdd, Nat.zero_add, List.range, List.range.loop, zqb, Region.wanted, ↓reduceIte, evPure, evalT_put, evalT_const, size_putT, hsz, Nat.reduceLT, reduceCtorEq, off71_0, muA_add0, h0]
 cases k with
 | zero => exact RchL.zero
 | succ k =>
 refine RchL.load X (by simp [base]) rfl rfl rfl (by simp only [↓reduceIte, evalT_put, size_putT, hsz, Nat.reduceLT]) (by kernel_rfl) (by simp) (by simp) (fun es hes => ev_none (by simp) es hes) (fun m' ms' hf' => ?_)
 refine ⟨_, .r0, hd_out _, ?_⟩
 refine Reach.more (n := 149 + 5) (by omega) (Reach.runs (n := 149) X.way (by simp [base]) (offP_ok _) 5 ?_)
 simp only [evRun, evStep, zqb, zqc, Region.wanted, ↓reduceIte, evPure, evalT_put, size_putT, hsz, Nat.reduceLT]
 refine headAll X hT k _ 0 { pc := .r0, old := m' } ⟨by simp only [size_putT, hsz], ?_, ?_, ?_, ?_, ?_, ?_⟩ (by simp) hf'.ok hf'.c
 all_goals simp only [↓reduceIte, evalT_put, size_putT, hsz, Nat.reduceLT, Nat.reduceEqDiff, reduceCtorEq, h0]
 all_goals rfl
def Ended (l : List Item) : Prop := l = [] ∨ ∃ l', l = .code .ret :: l'
theorem enc0 {m : Mx} (h : m.enc = 0) : m = ⟨0, 0, 0, 0⟩ := by
 obtain ⟨l, k, s, c⟩ := m
 simp only [Mx.enc] at h
 obtain rfl : l = 0 := by omega
 obtain rfl : k = 0 := by omega
 obtain rfl : s = 0 := by omega
 obtain rfl : c = 0 := by omega
 rfl
set_option maxHeartbeats 16000000 in
set_option maxRecDepth 100000 in
theorem at98 (X : Ctx C Kb i K) (hT : ∀ k T l, Ended l → RchL C Kb i K Fin k (at_ .ur) (base 98) cs [] 130 T l) {k : Nat} {T : Array Value} (hsz : T.size = 13) (h0 : evalT T (.tmp 0) = .pointer (some (muA C))) : RchL C Kb i K Fin k (at_ .ld) (base 98) cs [] 100 T [.code (Try.f98.body.getD .skip)] := by
 simp only [Try.f98, Option.getD_some]
 refine Reach.more (n := 20 + 80) (by omega) (Reach.runs (n := 20) X.way (by simp [base]) (offP_ok _) 80 ?_)
 simp only [evRun, evStep, zqa, Nat.zero_add, List.range, List.range.loop, List.getElem?_toArray, List.getElem?_cons_zero, Region.wanted, ↓reduceIte, evPure]
 cases k with
 | zero => exact RchL.zero
 | succ k =>
 refine RchL.mark0 (mm := .disable) X (by simp [base]) rfl rfl (by simp) rfl Try.func69 x69_n x69_b x69_x x69_f (by simp) (by simp) rfl (t' := at_ .l0) (fun _ _ => .ld) (by simp) fun _ => ?_
 refine Reach.more (n := 100 + 100) (by omega) (Reach.runs (n := 100) X.way (by simp [base]) (offP_ok _) 100 ?_)
 simp only [evRun, evStep, zqa, Nat.reduceAdd, Nat.zero_add, List.range, List.range.loop, zqb, List.getElem_toArray, List.getElem_cons_zero, Region.wanted, ↓reduceIte, evPure, evalT_put, size_putT, hsz, Nat.reduceLT, reduceCtorEq, off71_0, muA_add0, h0]
 cases k with
 | zero => exact RchL.zero
 | succ k =>
 refine RchL.cas (ov := 0) (nv := 1) X (by simp [base]) rfl rfl rfl (by simp only [↓reduceIte, evalT_put, size_putT, hsz, Nat.reduceLT]) (by simp only [evalT_const]; rfl) (by simp only [evalT_const]; rfl) (by simp) (by simp) (fun es hes => ev_none (by simp) es hes) (fun m ms hf he => ?_) (fun m ms hf he => ?_)
 · obtain rfl := enc0 he
   refine ⟨at_ .le, ⟨1, 0, 0, 0⟩, .l0hit rfl, rfl, by simp, ?_⟩
   refine Reach.more (n := 100 + 100) (by omega) (Reach.runs (n := 100) X.way (by simp [base]) (offP_ok _) 100 ?_)
   simp only [evRun, evStep, zqa, Nat.zero_add, List.range, List.range.loop, List.getElem?_toArray, List.getElem?_cons_zero, zqc, Region.wanted, ↓reduceIte, evPure, evalT_put, evalT_const, size_putT, hsz, Nat.reduceLT]
   cases k with
   | zero => exact RchL.zero
   | succ k =>
   refine RchL.mark0 (mm := .enable) X (by simp [base]) rfl rfl (by simp) rfl Try.func70 x70_n x70_b x70_x x70_f (by simp) (by simp) rfl (t' := at_ .la) (fun _ _ => .le) (by simp) fun _ => ?_
   refine Reach.more (n := 100 + 100) (by omega) (Reach.runs (n := 100) X.way (by simp [base]) (offP_ok _) 100 ?_)
   simp only [evRun, evStep, zqa, Nat.reduceAdd, Nat.zero_add, List.range, List.range.loop, zqb, List.getElem_toArray, List.getElem_cons_zero, Region.wanted, ↓reduceIte, evPure, evalT_put, size_putT, hsz, Nat.reduceLT, reduceCtorEq, h0]
   refine Reach.more (n := 99 + 1) (by omega) (RchL.conv X (by simp [base]) rfl rfl rfl (by simp only [↓reduceIte, evalT_put, size_putT, hsz, Nat.reduceLT]) ?_)
   cases k with
   | zero => exact RchL.zero
   | succ k =>
   refine RchL.markAt (mm := .acquire) X (by simp [base]) rfl rfl (by simp) rfl Try.func83 x83_n x83_b x83_x x83_f ?hx (by simp) (by simp) rfl (t' := at_ .ur) (fun _ _ => .la) (by simp) ?_
   case hx => simp [evalT_put, size_putT, hsz]
   refine Reach.more (n := 130 + 2) (by omega) (Reach.runs (n := 130) X.way (by simp [base]) (offP_ok _) 2 ?_)
   simp only [evRun, evStep, zqc]
   exact hT _ _ _ (.inr ⟨_, rfl⟩)
 · refine ⟨at_ .r0, .l0miss (fun x => he (by rw [x]; rfl)), by simp, ?_⟩
   refine Reach.more (n := 101 + 99) (by omega) (Reach.runs (n := 101) X.way (by simp [base]) (offP_ok _) 99 ?_)
   simp only [evRun, evStep, zqa, Nat.reduceAdd, Nat.zero_add, List.range, List.range.loop, zqb, zqc, Region.wanted, ↓reduceIte, evPure, evalT_put, size_putT, hsz, Nat.reduceLT, reduceCtorEq, h0]
   refine Reach.call X.way (by simp [base]) rfl rfl rfl Try.func106 (by kernel_rfl) (c := body106) rfl ?_
   refine at106 X (fun k T => ?_) ?_ ?_
   · refine Reach.more (n := 133) (by omega) (Reach.leave0 X.way rfl Try.func106 rfl ?_ (.inl rfl))
     exact Reach.endRegion X.way (hT _ _ _ (.inl rfl))
   · exact size_slots _ _ (by simp [Try.f106])
   · refine (evalT_slots _ _ _ (by simp)).trans ?_
     simp [evalT_put, size_putT, hsz]
set_option maxHeartbeats 16000000 in
set_option maxRecDepth 100000 in
theorem at81 (X : Ctx C Kb i K) (hT : ∀ k T, RchL C Kb i K Fin k (at_ .ur) (base 81) cs [] 120 T []) {k : Nat} {T : Array Value} (hsz : T.size = 6) (h0 : evalT T (.tmp 0) = .pointer (some (muA C))) : RchL C Kb i K Fin k (at_ .ld) (base 81) cs [] 150 T [.code (Try.f81.body.getD .skip)] := by
 simp only [Try.f81, Option.getD_some]
 refine Reach.more (n := 101 + 49) (by omega) (Reach.runs (n := 101) X.way (by simp [base]) (offP_ok _) 49 ?_)
 simp only [evRun, evStep, zqa, Nat.reduceAdd, Nat.zero_add, List.range, List.range.loop, zqb, Region.wanted, ↓reduceIte, evPure, evalT_put, size_putT, hsz, Nat.reduceLT, off73_1, muA_add0, h0]
 refine Reach.call X.way (by simp [base]) rfl rfl rfl Try.func98 (by kernel_rfl) (c := Try.f98.body.getD .skip) rfl ?_
 refine at98 X (fun k T l hl => ?_) ?_ ?_
 · refine Reach.more (n := 123) (by omega) (Reach.leave0 X.way rfl Try.func98 rfl ?_ hl)
   exact Reach.endRegion X.way (hT _ _)
 · exact size_slots _ _ (by simp [Try.f98])
 · refine (evalT_slots _ _ _ (by simp)).trans ?_
   simp [evalT_put, size_putT, hsz]
end
end Go.Proofs.Ytcoppnbjpncdcaa.Q
end
section
set_option linter.unusedVariables false
set_option linter.unusedSimpArgs false
namespace Go.Proofs.Ytcoppnbjpncdcaa.Q
open Go Go.Conc
open Go.ConcR (mk)
section
variable {P : Program} {main : Bool} {R : World → World → Prop} {D : World → World → Array Event → Prop} {K : World → Prop} {Stop : Goroutine → World → Prop} {b : Frame} {cs : List Frame} {ds : List Deferred}
def ReachR (P : Program) (main : Bool) (R : World → World → Prop) (D : World → World → Array Event → Prop) (K : World → Prop) (Stop : Goroutine → World → Prop) (b : Frame) (cs : List Frame) (ds : List Deferred) (n : Nat) (T : Array Value) (k : List Item) : Prop :=
 ∀ w, K w → Goes P main R D Stop n (G { b.at ⟨T, ds⟩ k with mode := .returning } cs) w
theorem ReachR.more {n m : Nat} (hn : n ≤ m) {T : Array Value} {k : List Item} (h : ReachR P main R D K Stop b cs ds n T k) : ReachR P main R D K Stop b cs ds m T k := fun w hw => Go.ConcM.goes_le hn (h w hw)
theorem Reach.ret (W : Way P R D K) {n : Nat} {T : Array Value} {k : List Item} (hk : Ended k) (h : ReachR P main R D K Stop b cs ds n T k) : Reach P main R D K Stop b cs ds (n + 1) T k := by
 intro w hK
 refine Goes.step rfl fun w₁ h₁ => ?_
 have hw₁ := W.rely w w₁ hK h₁
 have e : stepG P main (G (b.at ⟨T, ds⟩ k) cs) w₁ = .go (G { b.at ⟨T, ds⟩ k with mode := .returning } cs) w₁ := by
   rcases hk with rfl | ⟨k'', rfl⟩
   · exact stepG_end
   · exact stepG_ret'
 rw [e]
 exact ⟨W.idle w₁ hw₁, h w₁ hw₁⟩
theorem ReachR.unwind (W : Way P R D K) {n : Nat} {T : Array Value} {k : List Item} {f : FuncId} {fn : Func} {args : Array Value} {c : Code} (hf : P.funcs[f]? = some fn) (hname : (fn.name == "runtime.NumGoroutine") = false) (hb : fn.body = some c)
   (h : Reach P main R D K Stop (baseD f) ({ b.at ⟨T, ds⟩ k with mode := .returning } :: cs) [] n (args ++ Array.replicate (fn.ntmps - args.size) undef) [.code c]) : ReachR P main R D K Stop b cs (dcall f args :: ds) (n + 1) T k := by
 intro w hK
 refine Goes.step rfl fun w₁ h₁ => ?_
 have hw₁ := W.rely w w₁ hK h₁
 rw [stepG_unwind_enter (a := ⟨T, dcall f args :: ds⟩) (ds := ds) rfl hf hname hb]
 exact ⟨W.idle w₁ hw₁, h w₁ hw₁⟩
theorem Reach.leaveD (W : Way P R D K) (hb : b.kind = .deferred) {n : Nat} {T T₀ : Array Value} {k k' : List Item} {fn : Func} {b₀ : Frame} {ds₀ : List Deferred} (hf : P.funcs[b.fn]? = some fn) (hr : fn.results = #[]) (hk : Ended k')
   (h : ReachR P main R D K Stop b₀ cs ds₀ n T₀ k) : Reach P main R D K Stop b ({ b₀.at ⟨T₀, ds₀⟩ k with mode := .returning } :: cs) [] (n + 2) T k' := by
 refine Reach.ret W hk fun w hK => ?_
 refine Goes.step rfl fun w₁ h₁ => ?_
 have hw₁ := W.rely w w₁ hK h₁
 rw [stepG_leave_deferred (v := .tuple #[]) hb rfl hf (results_none hr _ P w₁) (events_results_none hr _ _) rfl]
 exact ⟨W.idle w₁ hw₁, h w₁ hw₁⟩
theorem ReachR.leave0 (W : Way P R D K) (hb : b.kind = .normal) {n : Nat} {T T₀ : Array Value} {ops : Array Oper} {i : Nat} {is : List Nat} {k : List Item} {fn : Func} {b₀ : Frame} {ds₀ : List Deferred} (hf : P.funcs[b.fn]? = some fn) (hr : fn.results = #[]) {k' : List Item}
   (h : Reach P main R D K Stop b₀ cs ds₀ n (putT T₀ ((ops[i]?).bind (·.dst)) (.tuple #[])) (.inRegion ops is :: k)) :
   ReachR P main R D K Stop b (b₀.at ⟨T₀, ds₀⟩ (.inRegion ops (i :: is) :: k) :: cs) [] (n + 1) T k' := by
 intro w hK
 refine Goes.step rfl fun w₁ h₁ => ?_
 have hw₁ := W.rely w w₁ hK h₁
 refine goes_leave0 hb rfl hf hr ?_
 have hp : (Act.mk T₀ ds₀).put ((ops[i]?).bind (·.dst)) (.tuple #[]) = ⟨putT T₀ ((ops[i]?).bind (·.dst)) (.tuple #[]), ds₀⟩ := by cases (ops[i]?).bind (·.dst) <;> rfl
 rw [hp]
 exact ⟨W.idle w₁ hw₁, h w₁ hw₁⟩
theorem Reach.defer (W : Way P R D K) (hb : b.kind ≠ .early) {n : Nat} {T : Array Value} {ops : Array Oper} {i : Nat} {is : List Nat} {k : List Item} {o : Oper} {f : FuncId} {xs : Array Operand} {ats : Array TypeId} (ho : ops[i]? = some o) (hw : Region.wanted o (yieldedT ops T) = true)
   (hop : o.op = .defer { callee := .value (.func f), args := xs, argTypes := ats }) (h : Reach P main R D K Stop b cs (dcall f (xs.map (evalT T)) :: ds) n (putT T o.dst undef) (.inRegion ops is :: k)) : Reach P main R D K Stop b cs ds (n + 1) T (.inRegion ops (i :: is) :: k) := by
 intro w hK
 refine Goes.step rfl fun w₁ h₁ => ?_
 have hw₁ := W.rely w w₁ hK h₁
 rw [stepG_defer (a := ⟨T, ds⟩) ho (by rw [show yielded ops (Act.mk T ds).tmps = yieldedT ops T from funext (yielded_eq ops T)]; exact hw) hb hop]
 refine ⟨W.idle w₁ hw₁, ?_⟩
 have := h w₁ hw₁
 rw [evalA, putA]
 exact this
end
section
variable {C : Cfg} {Kb : Nat → Prop} {i : Nat} {K : World → Prop} {Fin : Goroutine → World → Prop} {cs : List Frame}
theorem b_7 {m : Mx} (hm : m.ok) (hc : m.c < 12) : ((bits .and .i32 (m.enc : Int) 7 != 0) = decide (m.l = 1 ∨ m.k = 1 ∨ m.s = 1)) := by
 have := all_of (p := fun m => (bits .and .i32 (m.enc : Int) 7 != 0) == decide (m.l = 1 ∨ m.k = 1 ∨ m.s = 1)) (n := 12) (by kernel_rfl) hm hc
 rw [beq_iff_eq] at this
 exact this
theorem b_uc {m : Mx} (hm : m.ok) (hc : m.c < 12) (hl : m.l = 0) (hk : m.k = 0) (hs : m.s = 0) (h0 : m.c ≠ 0) : bits .or .i32 (IntKind.i32.wrap ((m.enc : Int) - 8)) 2 = (({ m with k := 1, c := m.c - 1 } : Mx).enc : Int) := by
 have := all_of (p := fun m => m.l != 0 || m.k != 0 || m.s != 0 || m.c == 0 || bits .or .i32 (IntKind.i32.wrap ((m.enc : Int) - 8)) 2 == (({ m with k := 1, c := m.c - 1 } : Mx).enc : Int)) (n := 12) (by kernel_rfl) hm hc
 simpa [hl, hk, hs, h0] using this
theorem b_dec {m : Mx} (hm : m.ok) (hc : m.c < 12) (hl : m.l = 1) : IntKind.i32.wrap ((m.enc : Int) + -1) = (({ m with l := m.l - 1 } : Mx).enc : Int) := by
 have := all_of (p := fun m => m.l != 1 || IntKind.i32.wrap ((m.enc : Int) + -1) == (({ m with l := m.l - 1 } : Mx).enc : Int)) (n := 12) (by kernel_rfl) hm hc
 simpa [hl] using this
theorem b_inc {m : Mx} (hm : m.ok) (hc : m.c < 12) (hl : m.l = 0) : (bits .and .i32 (IntKind.i32.wrap ((m.enc : Int) + 1)) 1 == 0) = false := by
 have := all_of (p := fun m => m.l != 0 || !(bits .and .i32 (IntKind.i32.wrap ((m.enc : Int) + 1)) 1 == 0)) (n := 12) (by kernel_rfl) hm hc
 simpa [hl] using this
theorem b_s0 {m : Mx} (hm : m.ok) (hc : m.c < 12) : ((bits .and .i32 (m.enc : Int) 4 == 0) = decide (m.s = 0)) := by
 have := all_of (p := fun m => (bits .and .i32 (m.enc : Int) 4 == 0) == decide (m.s = 0)) (n := 12) (by kernel_rfl) hm hc
 simpa using this
noncomputable def body108 : Code := Try.f108.body.getD .skip
noncomputable def lp108 : Code := inLp (snd (thn (snd (snd body108))))
def UhOK (C : Cfg) (Kb : Nat → Prop) (i : Nat) (K : World → Prop) (Fin : Goroutine → World → Prop) (cs : List Frame) (k : Nat) : Prop :=
 ∀ T (o : Mx), T.size = 43 → evalT T (.tmp 0) = .pointer (some (muA C)) → evalT T (.tmp 4) = .int .i32 o.enc → o.ok → o.c ≤ 10 → RchL C Kb i K Fin k (uh o) (base 108) cs [] 100 T [.code lp108, .inLoop lp108, .inBlock 0]
theorem uh_out (o : Mx) : (uh o).pc ≠ .out := by rcases uh_or o with ⟨_, e⟩ | ⟨_, e⟩ <;> rw [e] <;> simp
set_option maxHeartbeats 16000000 in
set_option maxRecDepth 100000 in
theorem uhOK (X : Ctx C Kb i K) (hT : ∀ k T l, Ended l → RchL C Kb i K Fin k (at_ .ue) (base 108) cs [] 60 T l) {k : Nat} (ih : ∀ k', k' < k → UhOK C Kb i K Fin cs k') : UhOK C Kb i K Fin cs k := by
 intro T o hsz h0 h4 hok hc
 have hc12 : o.c < 12 := by omega
 have q7 := b_7 hok hc12
 have e : lp108 = inLp (snd (thn (snd (snd body108)))) := rfl
 have tl : ([.code lp108, .inLoop lp108, .inBlock 0] : List Item) = .code (inLp (snd (thn (snd (snd body108))))) :: [.inLoop lp108, .inBlock 0] := rfl
 rw [tl]
 simp only [body108, Try.f108, Option.getD_some, snd, inLp, thn]
 clear e tl
 rcases uh_or o with ⟨hx, eh⟩ | ⟨hx, eh⟩
 · rw [eh]
   by_cases hc0 : o.c = 0
   · have q30 : ((o.c : Int) == 0) = true := by rw [hc0]; rfl
     refine Reach.more (n := 60 + 17) (by omega) (Reach.runs (n := 60) X.way (by simp [base]) (offP_ok _) 17 ?_)
     simp only [evRun, evStep, zqa, Nat.reduceAdd, Nat.zero_add, List.range, List.range.loop, zqb, Region.wanted, ↓reduceIte, evPure, evalT_put, evalT_const, size_putT, hsz, Nat.reduceLT, Nat.reduceEqDiff, Option.bind_some, reduceCtorEq, intBin, yieldedT, some_tf, Bool.false_eq_true, h4, b_shr, b_c hok hc12, Int.reduceLT, q30]
     exact hT _ _ _ (.inr ⟨_, rfl⟩)
   · have q30 : ((o.c : Int) == 0) = false := by rw [beq_eq_false_iff_ne]; omega
     rw [decide_eq_true (hx.resolve_left hc0)] at q7
     refine Reach.more (n := 60 + 17) (by omega) (Reach.runs (n := 60) X.way (by simp [base]) (offP_ok _) 17 ?_)
     simp only [evRun, evStep, zqa, Nat.reduceAdd, Nat.zero_add, List.range, List.range.loop, zqb, Region.wanted, ↓reduceIte, evPure, evalT_put, evalT_const, size_putT, hsz, Nat.reduceLT, Nat.reduceEqDiff, Option.bind_some, reduceCtorEq, intBin, yieldedT, beq_self_eq_true, Bool.false_eq_true, h4, b_shr, b_c hok hc12, Int.reduceLT, q30, q7]
     exact hT _ _ _ (.inr ⟨_, rfl⟩)
 · rw [eh]
   have q30 : ((o.c : Int) == 0) = false := by rw [beq_eq_false_iff_ne]; omega
   rw [decide_eq_false (fun h => hx (.inr h))] at q7
   have hl : o.l = 0 := by have := hok.1; omega
   have hk : o.k = 0 := by have := hok.2.1; omega
   have hs : o.s = 0 := by have := hok.2.2; omega
   have hor := b_uc hok hc12 hl hk hs (fun h => hx (.inl h))
   refine Reach.more (n := 40 + 60) (by omega) (Reach.runs (n := 40) X.way (by simp [base]) (offP_ok _) 60 ?_)
   simp only [evRun, evStep, zqa, Nat.reduceAdd, Nat.zero_add, List.range, List.range.loop, zqb, Region.wanted, ↓reduceIte, evPure, evalT_put, evalT_const, size_putT, hsz, Nat.reduceLT, Nat.reduceEqDiff, Option.bind_some, reduceCtorEq, intBin, yieldedT, beq_self_eq_true, off71_0, muA_add0, Bool.false_eq_true, h0, h4, b_shr, b_c hok hc12, Int.reduceLT, q30, q7, hor]
   cases k with
   | zero => exact RchL.zero
   | succ k =>
   refine RchL.cas (ov := o.enc) (nv := ({ o with k := 1, c := o.c - 1 } : Mx).enc) X (by simp [base]) rfl rfl rfl (by simp only [↓reduceIte, evalT_put, size_putT, hsz, Nat.reduceLT, Nat.reduceEqDiff]) (by simp only [↓reduceIte, evalT_put, size_putT, hsz, Nat.reduceLT, Nat.reduceEqDiff]) (by simp only [↓reduceIte, evalT_put, size_putT, hsz, Nat.reduceLT]) (by simp) (by simp) (fun es hes => ev_none (by simp) es hes) (fun m ms hf he => ?_) (fun m ms hf he => ?_)
   · obtain rfl : m = o := Mx.enc_inj hf.ok hok he
     refine ⟨at_ .us, { m with k := 1, c := m.c - 1 }, .uchit rfl rfl, rfl, by simp, ?_⟩
     refine Reach.more (n := 100 + 100) (by omega) (Reach.runs (n := 100) X.way (by simp [base]) (offP_ok _) 100 ?_)
     simp only [evRun, evStep, zqa, Nat.reduceAdd, Nat.zero_add, List.range, List.range.loop, zqb, zqc, Region.wanted, ↓reduceIte, evPure, evalT_put, size_putT, hsz, Nat.reduceLT, reduceCtorEq, off71_1, muA_add1, h0]
     cases k with
     | zero => exact RchL.zero
     | succ k =>
     refine RchL.rel X (by simp [base]) rfl rfl rfl ?hx2 ?_
     case hx2 => simp [evalT_put, size_putT, hsz]
     refine Reach.more (n := 60 + 2) (by omega) (Reach.runs (n := 60) X.way (by simp [base]) (offP_ok _) 2 ?_)
     simp only [evRun, evStep, zqc]
     exact hT _ _ _ (.inr ⟨_, rfl⟩)
   · refine ⟨at_ .ux, .ucmiss rfl (fun x => he (by rw [x])), by simp, ?_⟩
     refine Reach.more (n := 100 + 100) (by omega) (Reach.runs (n := 100) X.way (by simp [base]) (offP_ok _) 100 ?_)
     simp only [evRun, evStep, zqa, Nat.reduceAdd, Nat.zero_add, List.range, List.range.loop, zqb, zqc, Region.wanted, ↓reduceIte, evPure, evalT_put, size_putT, hsz, Nat.reduceLT, reduceCtorEq, off71_0, muA_add0, h0]
     cases k with
     | zero => exact RchL.zero
     | succ k =>
     refine RchL.load X (by simp [base]) rfl rfl rfl (by simp only [↓reduceIte, evalT_put, size_putT, hsz, Nat.reduceLT]) (by kernel_rfl) (by simp) (by simp) (fun es hes => ev_none (by simp) es hes) (fun m' ms' hf' => ?_)
     refine ⟨uh m', .ux, uh_out _, ?_⟩
     refine Reach.more (n := 101 + 99) (by omega) (Reach.runs (n := 101) X.way (by simp [base]) (offP_ok _) 99 ?_)
     simp only [evRun, evStep, zqb, zqc, Region.wanted, ↓reduceIte, evPure, evalT_put, size_putT, hsz, Nat.reduceLT]
     refine Reach.inLoop X.way (ih k (by omega) _ m' ?_ ?_ ?_ hf'.ok hf'.c)
     all_goals simp only [↓reduceIte, evalT_put, size_putT, hsz, Nat.reduceLT, reduceCtorEq, h0]
set_option maxHeartbeats 16000000 in
set_option maxRecDepth 100000 in
theorem at108 (X : Ctx C Kb i K) (hT : ∀ k T l, Ended l → RchL C Kb i K Fin k (at_ .ue) (base 108) cs [] 60 T l) {k : Nat} {T : Array Value} {m : Mx} (hsz : T.size = 43) (h0 : evalT T (.tmp 0) = .pointer (some (muA C))) (h1 : evalT T (.tmp 1) = .int .i32 m.enc) (hm : m.ok) (hc : m.c ≤ 10) (hl : m.l = 0) :
   RchL C Kb i K Fin k (if m.s = 0 then uh m else at_ .us) (base 108) cs [] 150 T [.code body108] := by
 have hc12 : m.c < 12 := by omega
 have qi := b_inc hm hc12 hl
 have qs := b_s0 hm hc12
 have e : ([.code body108] : List Item) = [.code (.seq (fst body108) (.seq (fst (snd body108)) (.cond (.tmp 12) (.seq (fst (thn (snd (snd body108)))) (.block 0 (.loop lp108))) (els (snd (snd body108))))))] := rfl
 simp only [body108, Try.f108, Option.getD_some, snd, fst, thn, els] at e
 rw [show ([.code body108] : List Item) = _ from e]
 clear e
 rcases (show m.s = 0 ∨ m.s = 1 by have := hm.2.2; omega) with hs | hs
 · rw [if_pos hs]
   rw [decide_eq_true hs] at qs
   refine Reach.more (n := 100 + 24) (by omega) (Reach.runs (n := 100) X.way (by simp [base]) (offP_ok _) 24 ?_)
   simp only [evRun, evStep, zqa, Nat.reduceAdd, Nat.zero_add, List.range, List.range.loop, zqb, Region.wanted, ↓reduceIte, evPure, evalT_put, evalT_const, size_putT, hsz, Nat.reduceLT, Nat.reduceEqDiff, reduceCtorEq, intBin, h1, qi, qs]
   refine Nat.strongRecOn (motive := UhOK C Kb i K Fin cs) k (fun k ih => uhOK X hT ih) _ m ?_ ?_ ?_ hm hc
   all_goals simp only [↓reduceIte, evalT_put, size_putT, hsz, Nat.reduceLT, reduceCtorEq, h0]
 · rw [if_neg (by omega)]
   rw [decide_eq_false (by omega)] at qs
   refine Reach.more (n := 50 + 100) (by omega) (Reach.runs (n := 50) X.way (by simp [base]) (offP_ok _) 100 ?_)
   simp only [evRun, evStep, zqa, Nat.reduceAdd, Nat.zero_add, List.range, List.range.loop, zqb, Region.wanted, ↓reduceIte, evPure, evalT_put, evalT_const, size_putT, hsz, Nat.reduceLT, Nat.reduceEqDiff, reduceCtorEq, intBin, off71_1, muA_add1, h0, h1, qi, qs]
   cases k with
   | zero => exact RchL.zero
   | succ k =>
   refine RchL.rel X (by simp [base]) rfl rfl rfl ?hx2 ?_
   case hx2 => simp [evalT_put, size_putT, hsz]
   refine Reach.more (n := 60 + 1) (by omega) (Reach.runs (n := 60) X.way (by simp [base]) (offP_ok _) 1 ?_)
   simp only [evRun, evStep, zqc]
   exact hT _ _ _ (.inl rfl)
noncomputable def body99 : Code := Try.f99.body.getD .skip
noncomputable def r699 : Code := snd (snd (snd body99))
set_option maxHeartbeats 16000000 in
set_option maxRecDepth 100000 in
theorem end99 (X : Ctx C Kb i K) (hG : ∀ w T ops, K w → Fin (G ((base 99).at ⟨T, []⟩ (.inRegion ops [] :: [])) cs) w) {k : Nat} {T : Array Value} (hsz : T.size = 21) : RchL C Kb i K Fin k (at_ .ue) (base 99) cs [] 50 T [.code r699] := by
 have e : r699 = snd (snd (snd (Try.f99.body.getD .skip))) := rfl
 simp only [Try.f99, Option.getD_some, snd] at e
 rw [e]
 clear e
 refine Reach.more (n := 20 + 30) (by omega) (Reach.runs (n := 20) X.way (by simp [base]) (offP_ok _) 30 ?_)
 simp only [evRun, evStep, zqa, Nat.zero_add, List.range, List.range.loop, List.getElem?_toArray, List.getElem?_cons_zero, Region.wanted, ↓reduceIte, evPure]
 cases k with
 | zero => exact RchL.zero
 | succ k =>
 exact RchL.mark0 (mm := .enable) X (by simp [base]) rfl rfl (by simp) rfl Try.func70 x70_n x70_b x70_x x70_f (by simp) (by simp) rfl (t' := at_ .out) (fun _ _ => .ue) (fun _ w hw => hG _ _ _ hw) fun x => absurd rfl x
set_option maxHeartbeats 16000000 in
set_option maxRecDepth 100000 in
theorem at99 (X : Ctx C Kb i K) (hG : ∀ w T ops, K w → Fin (G ((base 99).at ⟨T, []⟩ (.inRegion ops [] :: [])) cs) w) {k : Nat} {T : Array Value} (hsz : T.size = 21) (h0 : evalT T (.tmp 0) = .pointer (some (muA C))) :
   RchL C Kb i K Fin k (at_ .ur) (base 99) cs [] 30 T [.code body99] := by
 have e : ([.code body99] : List Item) = [.code (.seq (fst body99) (.seq (fst (snd body99)) (.seq (fst (snd (snd body99))) r699)))] := rfl
 simp only [body99, Try.f99, Option.getD_some, snd, fst] at e
 rw [show ([.code body99] : List Item) = _ from e]
 clear e
 refine Reach.more (n := 20 + 10) (by omega) (Reach.runs (n := 20) X.way (by simp [base]) (offP_ok _) 10 ?_)
 simp only [evRun, evStep, zqa, Nat.reduceAdd, Nat.zero_add, List.range, List.range.loop, zqb, Region.wanted, ↓reduceIte, evPure, evalT_put, evalT_const, size_putT, hsz, Nat.reduceLT, off71_0, muA_add0, h0]
 refine Reach.more (n := 19 + 1) (by omega) (RchL.loadIdle X (by simp [base]) rfl rfl rfl (by simp only [↓reduceIte, evalT_put, size_putT, hsz, Nat.reduceLT]) (by kernel_rfl) fun v => ?_)
 refine Reach.more (n := 9 + 10) (by omega) (Reach.runs (n := 9) X.way (by simp [base]) (offP_ok _) 10 ?_)
 simp only [evRun, evStep, zqa, Nat.reduceAdd, Nat.zero_add, List.range, List.range.loop, zqb, zqc, Region.wanted, ↓reduceIte, evPure, evalT_put, size_putT, hsz, Nat.reduceLT, reduceCtorEq, h0]
 refine Reach.more (n := 8 + 1) (by omega) (RchL.conv X (by simp [base]) rfl rfl rfl (by simp only [↓reduceIte, evalT_put, size_putT, hsz, Nat.reduceLT]) ?_)
 cases k with
 | zero => exact RchL.zero
 | succ k =>
 refine RchL.markAt (mm := .releaseMerge) X (by simp [base]) rfl rfl (by simp) rfl Try.func68 x68_n x68_b x68_x x68_f ?hx (by simp) (by simp) rfl (t' := at_ .ud) (fun _ _ => .ur) (by simp) ?_
 case hx => simp [evalT_put, size_putT, hsz]
 refine Reach.more (n := 100 + 100) (by omega) (Reach.runs (n := 100) X.way (by simp [base]) (offP_ok _) 100 ?_)
 simp only [evRun, evStep, zqa, Nat.zero_add, List.range, List.range.loop, List.getElem?_toArray, List.getElem?_cons_zero, zqc, Region.wanted, ↓reduceIte, evPure]
 cases k with
 | zero => exact RchL.zero
 | succ k =>
 refine RchL.mark0 (mm := .disable) X (by simp [base]) rfl rfl (by simp) rfl Try.func69 x69_n x69_b x69_x x69_f (by simp) (by simp) rfl (t' := at_ .u0) (fun _ _ => .ud) (by simp) fun _ => ?_
 refine Reach.more (n := 100 + 100) (by omega) (Reach.runs (n := 100) X.way (by simp [base]) (offP_ok _) 100 ?_)
 simp only [evRun, evStep, zqa, Nat.reduceAdd, Nat.zero_add, List.range, List.range.loop, zqb, List.getElem_toArray, List.getElem_cons_zero, Region.wanted, ↓reduceIte, evPure, evalT_put, size_putT, hsz, Nat.reduceLT, reduceCtorEq, off71_0, muA_add0, h0]
 cases k with
 | zero => exact RchL.zero
 | succ k =>
 refine RchL.add (d := -1) X (by simp [base]) rfl rfl rfl (by simp only [↓reduceIte, evalT_put, size_putT, hsz, Nat.reduceLT]) (by simp only [evalT_const]) (by simp) (by simp) (fun es hes => ev_none (by simp) es hes) (fun m ms hf => ?_)
 have hl := hf.hold rfl
 have hmc := hf.c
 have hmok := hf.ok
 refine ⟨if m.s = 0 then uh { m with l := m.l - 1 } else at_ .us, { m with l := m.l - 1 }, ?mv, b_dec hmok (by omega) hl, by split <;> simp [uh_out], ?_⟩
 case mv =>
   rcases (show m.s = 0 ∨ m.s = 1 by have := hmok.2.2; omega) with hs | hs
   · rw [if_pos hs]; exact .u0 hs
   · rw [if_neg (by omega)]; exact .u0st hs
 have hm' : ({ m with l := m.l - 1 } : Mx).ok := ⟨by simp only; omega, hmok.2.1, hmok.2.2⟩
 cases qz : ((({ m with l := m.l - 1 } : Mx).enc : Int) != 0) with
 | true =>
   refine Reach.more (n := 161 + 39) (by omega) (Reach.runs (n := 161) X.way (by simp [base]) (offP_ok _) 39 ?_)
   simp only [evRun, evStep, zqa, Nat.reduceAdd, Nat.zero_add, List.range, List.range.loop, zqb, zqc, Region.wanted, ↓reduceIte, evPure, evalT_put, evalT_const, size_putT, hsz, Nat.reduceLT, Nat.reduceEqDiff, reduceCtorEq, intBin, h0, qz]
   refine Reach.call X.way (by simp [base]) rfl rfl rfl Try.func108 (by kernel_rfl) (c := body108) rfl ?_
   refine Reach.more (n := 150) (by omega) (at108 X (m := { m with l := m.l - 1 }) (fun k T l hl => ?_) ?_ ?_ ?_ hm' hmc (by simp only; omega))
   · refine Reach.more (n := 54) (by omega) (Reach.leave0 X.way rfl Try.func108 rfl ?_ hl)
     refine Reach.more (n := 51) (by omega) (Reach.endRegion X.way (end99 X hG ?_))
     simp only [zqb, size_putT, hsz, Option.bind_some]
   · exact size_slots _ _ (by simp [Try.f108])
   · refine (evalT_slots _ _ _ (by simp)).trans ?_
     simp [evalT_put, size_putT, hsz]
   · refine (evalT_slots _ _ _ (by simp)).trans ?_
     simp [evalT_put, size_putT, hsz]
 | false =>
   have h0' := enc0 (m := { m with l := m.l - 1 }) (by simpa [bne] using qz)
   have e1 := congrArg Mx.s h0'
   have e2 := congrArg Mx.c h0'
   simp only at e1 e2
   rw [if_pos e1, show uh { m with l := m.l - 1 } = at_ .ue from by unfold uh; rw [if_pos (.inl e2)]]
   refine Reach.more (n := 100 + 10) (by omega) (Reach.runs (n := 100) X.way (by simp [base]) (offP_ok _) 10 ?_)
   simp only [evRun, evStep, zqa, Nat.reduceAdd, Nat.zero_add, List.range, List.range.loop, zqb, zqc, Region.wanted, ↓reduceIte, evPure, evalT_put, evalT_const, size_putT, hsz, Nat.reduceLT, reduceCtorEq, intBin, qz]
   refine Reach.more (n := 50) (by omega) (end99 X hG ?_)
   simp only [size_putT, hsz]
set_option maxHeartbeats 16000000 in
set_option maxRecDepth 100000 in
theorem at82 (X : Ctx C Kb i K) {cs0 : List Frame} (hG : ∀ w T T' ops ops' j, K w → Fin (G ((base 99).at ⟨T, []⟩ (.inRegion ops [] :: [])) ((baseD 82).at ⟨T', []⟩ [.inRegion ops' [j]] :: cs0)) w) {k : Nat} {T : Array Value} (hsz : T.size = 6) (h0 : evalT T (.tmp 0) = .pointer (some (muA C))) :
   RchL C Kb i K Fin k (at_ .ur) (baseD 82) cs0 [] 45 T [.code (Try.f82.body.getD .skip)] := by
 simp only [Try.f82, Option.getD_some]
 refine Reach.more (n := 31 + 14) (by omega) (Reach.runs (n := 31) X.way (by simp [baseD]) (offP_ok _) 14 ?_)
 simp only [evRun, evStep, zqa, Nat.reduceAdd, Nat.zero_add, List.range, List.range.loop, zqb, Region.wanted, ↓reduceIte, evPure, evalT_put, size_putT, hsz, Nat.reduceLT, off73_1, muA_add0, h0]
 refine Reach.call X.way (by simp [baseD]) rfl rfl rfl Try.func99 (by kernel_rfl) (c := body99) rfl ?_
 refine at99 X (fun w T ops hw => hG _ _ _ _ _ _ hw) ?_ ?_
 · exact size_slots _ _ (by simp [Try.f99])
 · refine (evalT_slots _ _ _ (by simp)).trans ?_
   simp [evalT_put, size_putT, hsz]
end
end Go.Proofs.Ytcoppnbjpncdcaa.Q
end
section
set_option linter.unusedVariables false
set_option linter.unusedSimpArgs false
namespace Go.Proofs.Ytcoppnbjpncdcaa.Q
open Go Go.Conc
open Go.ConcR (mk)
section
variable {P : Program} {main : Bool} {R : World → World → Prop} {D : World → World → Array Event → Prop} {K : World → Prop} {Stop : Goroutine → World → Prop} {b : Frame} {cs : List Frame} {ds : List Deferred}
theorem Reach.opv (W : Way P R D K) (hb : b.kind ≠ .early) {n : Nat} {T : Array Value} {ops : Array Oper} {j : Nat} {is : List Nat} {k : List Item} {o : Oper} (v : Value) (ho : ops[j]? = some o) (hwn : Region.wanted o (yieldedT ops T) = true)
   (h1 : ∀ w, K w → (execOp (evalT T) o).run P w = .ok (.value v) w) (h2 : ∀ w, K w → ∀ e ∈ (execOp (evalT T) o).events P w #[], D w w #[e]) (hD : ∀ w es, (∀ e ∈ es, D w w #[e]) → D w w es)
   (h : Reach P main R D K Stop b cs ds n (putT T o.dst v) (.inRegion ops is :: k)) : Reach P main R D K Stop b cs ds (n + 1) T (.inRegion ops (j :: is) :: k) := by
 intro w hw
 refine Goes.step rfl fun w₁ h₁' => ?_
 have hw₁ := W.rely w w₁ hw h₁'
 rw [stepG_value (a := ⟨T, ds⟩) ho (wantedA hwn) hb (by rw [evalA]; exact h1 w₁ hw₁), putA]
 refine ⟨hD _ _ fun e he => ?_, h w₁ hw₁⟩
 have := mem_listed he
 rw [evalA] at this
 exact h2 w₁ hw₁ e this
end
section
variable {w : World} {ρ : Operand → Value} {o : Oper}
theorem run_ld1 {ty : TypeId} {x : Operand} {ad : Addr} {v : Value} (hop : o.op = .load ty x) (hx : ρ x = .pointer (some ad)) (hc : w.cell? ad = some v) (hty : ty = 3 ∨ ty = 65 ∨ ty = 28 ∨ ty = 66) :
   (execOp ρ o).run Try.prog w = .ok (.value v) w ∧ (execOp ρ o).events Try.prog w #[] = #[⟨.cell ad, false, false⟩] := by
 unfold execOp
 simp only [hop, hx]
 rcases hty with rfl | rfl | rfl | rfl <;> (constructor <;> simp [go_sem, hc])
theorem run_ld30 {x : Operand} {ad : Addr} {v1 v2 : Value} (hop : o.op = .load 30 x) (hx : ρ x = .pointer (some ad)) (hc : w.cell? ad = some v1) (hc2 : w.cell? ⟨ad.block, ad.off + 1, none⟩ = some v2) :
   (execOp ρ o).run Try.prog w = .ok (.value (.agg #[v1, v2])) w ∧ (execOp ρ o).events Try.prog w #[] = #[⟨.cell ad, false, false⟩, ⟨.cell ⟨ad.block, ad.off + 1, none⟩, false, false⟩] := by
 unfold execOp
 simp only [hop, hx]
 constructor <;> simp [go_sem, hc, hc2, Go.loadVar, Go.loadCells, Go.loadCellsFrom]
theorem off75_0 : offP Try.prog 75 0 = some 0 := by kernel_rfl
theorem off75_1 : offP Try.prog 75 1 = some 2 := by kernel_rfl
theorem off75_2 : offP Try.prog 75 2 = some 3 := by kernel_rfl
theorem off30_0 : offP Try.prog 30 0 = some 0 := by kernel_rfl
theorem off30_1 : offP Try.prog 30 1 = some 1 := by kernel_rfl
theorem off82_1 : offP Try.prog 82 1 = some 0 := by kernel_rfl
theorem off82_2 : offP Try.prog 82 2 = some 1 := by kernel_rfl
theorem off80_2 : offP Try.prog 80 2 = some 0 := by kernel_rfl
theorem run_ix28 {x y : Operand} {bl n c i : Nat} (hop : o.op = .indexAddr 28 x y) (hx : ρ x = .slice (some ⟨bl, 0, none⟩) n c) (hy : ρ y = .int .i64 i) (hi : i < n) :
   (execOp ρ o).run Try.prog w = .ok (.value (.pointer (some ⟨bl, 2 * i, none⟩))) w ∧ (execOp ρ o).events Try.prog w #[] = #[] := by
 unfold execOp
 simp only [hop, hx, hy]
 constructor <;> simp [go_sem, hi, Nat.mul_comm]
theorem run_ix66 {x y : Operand} {bl n c i : Nat} (hop : o.op = .indexAddr 66 x y) (hx : ρ x = .slice (some ⟨bl, 0, none⟩) n c) (hy : ρ y = .int .i64 i) (hi : i < n) :
   (execOp ρ o).run Try.prog w = .ok (.value (.pointer (some ⟨bl, i, none⟩))) w ∧ (execOp ρ o).events Try.prog w #[] = #[] := by
 unfold execOp
 simp only [hop, hx, hy]
 constructor <;> simp [go_sem, hi]
theorem ev_st_bool (P : Program) (w : World) (es : Array Event) (a : Addr) (m : Mode) (b : Bool) : (store a (.bool b) m).events P w es = storedEv P w es a (.bool b) m := events_store P w es a _ m rfl
theorem ev_st_ptr (P : Program) (w : World) (es : Array Event) (a : Addr) (m : Mode) (b : Option Addr) : (store a (.pointer b) m).events P w es = storedEv P w es a (.pointer b) m := events_store P w es a _ m rfl
theorem run_st1 {ty : TypeId} {x y : Operand} {ad : Addr} {v u : Value} (hop : o.op = .store ty x y) (hx : ρ x = .pointer (some ad)) (hy : ρ y = v) (hty : ty = 3 ∨ ty = 65 ∨ ty = 4) (h1 : (∃ a, v = .int .i64 a) ∨ (∃ b, v = .bool b) ∨ ∃ p, v = .pointer p) (hc : w.cell? ad = some u) (hz : w.frozen? ad = false) :
   (execOp ρ o).run Try.prog w = .ok .skip (w.setCell ad v) ∧ (execOp ρ o).events Try.prog w #[] = #[⟨.cell ad, true, false⟩] := by
 unfold execOp
 simp only [hop, hx, hy]
 rcases h1 with ⟨a, rfl⟩ | ⟨a, rfl⟩ | ⟨a, rfl⟩ <;> rcases hty with rfl | rfl | rfl <;> (constructor <;> simp [go_sem, stored, storedEv, ev_st_bool, ev_st_ptr, hc, hz])
theorem run_st30 {x y : Operand} {ad : Addr} {v1 v2 : Int} {u1 u2 : Value} (hop : o.op = .store 30 x y) (hx : ρ x = .pointer (some ad)) (hy : ρ y = .agg #[.int .i64 v1, .int .i64 v2]) (hc : w.cell? ad = some u1) (hz : w.frozen? ad = false)
   (hc2 : (w.setCell ad (.int .i64 v1)).cell? ⟨ad.block, ad.off + 1, none⟩ = some u2) (hz2 : (w.setCell ad (.int .i64 v1)).frozen? ⟨ad.block, ad.off + 1, none⟩ = false) :
   (execOp ρ o).run Try.prog w = .ok .skip ((w.setCell ad (.int .i64 v1)).setCell ⟨ad.block, ad.off + 1, none⟩ (.int .i64 v2)) ∧ (execOp ρ o).events Try.prog w #[] = #[⟨.cell ad, true, false⟩, ⟨.cell ⟨ad.block, ad.off + 1, none⟩, true, false⟩] := by
 unfold execOp
 simp only [hop, hx, hy]
 constructor <;> simp [go_sem, stored, storedEv, hc, hz, hc2, hz2, Go.storeCells]
end
def Pick (ops : Array Oper) (l : Array Bool) (i : Nat) : Prop := ∃ o, ops[i]? = some o ∧ l.getD i true = false ∧ ∀ e ∈ o.after, Region.binds .any e = true → l.getD e.on false = true
def unl (n : Nat) (l : Array Bool) : Nat := ((List.range n).filter fun i => !l.getD i true).length
section
variable {P : Program} {main : Bool} {R : World → World → Prop} {D : World → World → Array Event → Prop} {Stop : Goroutine → World → Prop} {b : Frame} {cs : List Frame} {ds : List Deferred} {ops : Array Oper} {k : List Item} {n : Nat} {Inv : Array Bool → Array Value → World → Prop}
theorem ready_pick {l : Array Bool} {i : Nat} (h : i ∈ Region.ready .any ops l) : Pick ops l i ∧ i < ops.size := by
 obtain ⟨h1, o, h2, h3⟩ := mem_ready.1 h
 exact ⟨⟨o, h2, h1, h3⟩, (Array.getElem?_eq_some_iff.1 h2).1⟩
theorem ready_nil (ho : ∀ (i : Nat) (o : Oper), ops[i]? = some o → ∀ e ∈ o.after, Region.binds .any e = true → e.on < i) {l : Array Bool} (hl : l.size = ops.size) (h : Region.ready .any ops l = []) : ∀ i, i < ops.size → l.getD i true = true := by
 intro i
 induction i using Nat.strongRecOn with
 | _ i ih =>
   intro hi
   cases hc : l.getD i true with
   | true => rfl
   | false =>
     have : i ∈ Region.ready .any ops l := by
       obtain ⟨o, hoi⟩ : ∃ o, ops[i]? = some o := ⟨ops[i], by rw [Array.getElem?_eq_getElem hi]⟩
       refine mem_ready.2 ⟨hc, o, hoi, fun e he hb => ?_⟩
       have hlt := ho i o hoi e he hb
       have := ih _ hlt (by omega)
       have hsz : e.on < l.size := by omega
       simp only [Array.getD, hsz, dite_true] at this ⊢
       exact this
     rw [h] at this
     cases this
theorem unl_set {l : Array Bool} {i N : Nat} (hl : l.size = N) (hi : i < N) (hf : l.getD i true = false) : unl N (l.setIfInBounds i true) + 1 ≤ unl N l := by
 unfold unl
 have key : ∀ (L : List Nat), L.Nodup → i ∈ L → (L.filter fun j => !(l.setIfInBounds i true).getD j true).length + 1 ≤ (L.filter fun j => !l.getD j true).length := by
   intro L
   induction L with
   | nil => intro _ h; cases h
   | cons x L ih =>
     intro hnd hm
     rw [List.nodup_cons] at hnd
     have hget : ∀ j, j ≠ i → (l.setIfInBounds i true).getD j true = l.getD j true := fun j hj => getD_set_ne true (Ne.symm hj)
     by_cases hx : x = i
     · subst hx
       have h1 : (l.setIfInBounds x true).getD x true = true := by simp [Array.getD_eq_getD_getElem?, hl, hi]
       have h2 : (L.filter fun j => !(l.setIfInBounds x true).getD j true) = L.filter fun j => !l.getD j true := List.filter_congr fun j hj => by rw [hget j (fun e => hnd.1 (e ▸ hj))]
       rw [List.filter_cons, List.filter_cons, h1, hf, h2]
       simp
     · have := ih hnd.2 ((List.mem_cons.1 hm).resolve_left (Ne.symm hx))
       rw [List.filter_cons, List.filter_cons, hget x hx]
       cases l.getD x true <;> simp only [Bool.not_true, Bool.not_false, Bool.false_eq_true, if_false, if_true, List.length_cons] <;> omega
 exact key _ List.nodup_range (List.mem_range.2 hi)
theorem goes_drawn (hrefl : ∀ l T w w₁, Inv l T w → R w w₁ → Inv l T w₁) (hdraw : ∀ l T w, Inv l T w → D w { w with drawn := w.drawn + 1 } #[] ∧ Inv l T { w with drawn := w.drawn + 1 }) (hm : P.follows .mixedOrders = true)
   (ho : ∀ (i : Nat) (o : Oper), ops[i]? = some o → ∀ e ∈ o.after, Region.binds .any e = true → e.on < i)
   (step : ∀ l T w i is, Pick ops l i → i < ops.size → Inv l T w → ∃ T' w' es, stepG P main (G (b.at ⟨T, ds⟩ (.inRegion ops (i :: is) :: k)) cs) w = .go (G (b.at ⟨T', ds⟩ (.inRegion ops is :: k)) cs) w' es ∧ D w w' es ∧ Inv (l.setIfInBounds i true) T' w')
   (done : ∀ l T w, l.size = ops.size → (∀ i, i < ops.size → l.getD i true = true) → Inv l T w → Goes P main R D Stop n (G (b.at ⟨T, ds⟩ (.inRegion ops [] :: k)) cs) w)
   {id : Nat} {T : Array Value} {w : World} (h : Inv (Array.replicate ops.size false) T w) : Goes P main R D Stop (ops.size + n + 1) (G (b.at ⟨T, ds⟩ (.code (.region id ops true) :: k)) cs) w := by
 refine Goes.step rfl fun w₁ h₁ => ?_
 have hi := hrefl _ _ _ _ h h₁
 rw [stepG_region_draw]
 refine ⟨(hdraw _ _ _ hi).1, ?_⟩
 have main' : ∀ (fuel t : Nat) (l : Array Bool) (T : Array Value) (w : World), l.size = ops.size → unl ops.size l ≤ fuel → Inv l T w → Goes P main R D Stop (fuel + n) (G (b.at ⟨T, ds⟩ (.inRegion ops (Region.linearise.go .any ops fuel t l []) :: k)) cs) w := by
   intro fuel
   induction fuel with
   | zero =>
     intro t l T w hl hu hI
     simp only [Region.linearise.go, List.reverse_nil]
     rw [Nat.zero_add]
     refine done l T w hl (fun i hi => ?_) hI
     cases hc : l.getD i true with
     | true => rfl
     | false =>
       have : i ∈ (List.range ops.size).filter fun i => !l.getD i true := List.mem_filter.2 ⟨List.mem_range.2 hi, by rw [hc]; rfl⟩
       have := List.length_pos_of_mem this
       unfold unl at hu
       omega
   | succ fuel ih =>
     intro t l T w hl hu hI
     simp only [Region.linearise.go]
     change Goes P main R D Stop (fuel + 1 + n) (G (b.at ⟨T, ds⟩ (.inRegion ops (match (Region.ready .any ops l)[t % (Region.ready .any ops l).length]? with
       | some i => Region.linearise.go .any ops fuel (t / (Region.ready .any ops l).length) (l.setIfInBounds i true) [i]
       | none => [].reverse) :: k)) cs) w
     cases hi : (Region.ready .any ops l)[t % (Region.ready .any ops l).length]? with
     | none =>
       have hnil : Region.ready .any ops l = [] := by
         cases hr : Region.ready .any ops l with
         | nil => rfl
         | cons x xs =>
           rw [hr] at hi
           have hlt : t % (x :: xs).length < (x :: xs).length := Nat.mod_lt _ (by simp)
           simp at hi
           simp at hlt
           omega
       exact Go.ConcM.goes_le (by omega) (done l T w hl (ready_nil ho hl hnil) hI)
     | some i =>
       simp only []
       rw [linearise_go_acc, List.reverse_singleton, List.singleton_append]
       obtain ⟨hp, hlt⟩ := ready_pick (List.mem_of_getElem? hi)
       rw [show fuel + 1 + n = (fuel + n) + 1 by omega]
       refine Goes.step rfl fun w₂ h₂ => ?_
       obtain ⟨T', w', es, hgo, hD, hI'⟩ := step l T w₂ i (Region.linearise.go .any ops fuel (t / (Region.ready .any ops l).length) (l.setIfInBounds i true) []) hp hlt (hrefl _ _ _ _ hI h₂)
       rw [hgo]
       obtain ⟨o, _, hf, _⟩ := hp
       exact ⟨hD, ih _ _ _ _ (by simp [hl]) (by have := unl_set hl hlt hf; omega) hI'⟩
 have hs : Region.schedule (P.follows .mixedOrders) ops (w₁.tape w₁.drawn (.order b.fn id)) = Region.linearise.go .any ops ops.size (w₁.tape w₁.drawn (.order b.fn id)) (Array.replicate ops.size false) [] := by
   simp only [Region.schedule, hm, Bool.true_or, if_true, Region.linearise]
 rw [hs]
 refine main' ops.size _ _ _ _ (by simp) ?_ (hdraw _ _ _ hi).2
 unfold unl
 exact Nat.le_trans (List.length_filter_le _ _) (by simp)
end
theorem mixed : Try.prog.follows .mixedOrders = true := by kernel_rfl
end Go.Proofs.Ytcoppnbjpncdcaa.Q
end
section
set_option linter.unusedVariables false
namespace Go.Proofs.Ytcoppnbjpncdcaa.Q
open Go Go.Conc
open Go.ConcN (PermW fork_knows RelBy)
structure Fam where
 Sh : Loc → Prop
 O : Loc → Prop
 Own : Nat → Loc → Prop
 Rd : Nat → Loc → Prop
structure Fam.Apart (A : Fam) : Prop where
 own : ∀ k k' l, A.Own k l → A.Own k' l → k = k'
 ownRd : ∀ k k' l, A.Own k l → ¬ A.Rd k' l
 ownSh : ∀ k l, A.Own k l → ¬ A.Sh l ∧ ¬ A.O l ∧ l.isMemory = true
 rdSh : ∀ k l, A.Rd k l → ¬ A.Sh l ∧ ¬ A.O l ∧ l.isMemory = true
section
variable (A : Fam)
structure Tr (t : Trace) (j : Nat) : Prop where
 quiet : Quiet A.Sh t
 old : ∀ i a, touchAt t i = some a → a.loc.isMemory = true → A.O a.loc → Knows t 0 i ∨ a.kind = .atomic
 own : ∀ k, 1 ≤ k → k ≤ j → ∀ l, A.Own k l → Perm t k l
 rd : ∀ k, 1 ≤ k → k ≤ j → ∀ l, A.Rd k l → PermW t k l
 free : ∀ l : Loc, l.isMemory = true → ¬ A.Sh l → ¬ A.O l → (∀ k, 1 ≤ k → k ≤ j → ¬ A.Own k l ∧ ¬ A.Rd k l) → Perm t 0 l
 mine : ∀ l : Loc, l.isMemory = true → ¬ A.Sh l → ¬ A.O l → (∀ k, 1 ≤ k → k ≤ j → ¬ A.Own k l) → PermW t 0 l
 nr : ∀ said, ¬ Race said t
def May0 (j : Nat) (op : MemOp) : Prop :=
 op.g = 0 ∧ ∀ x, op.act.touch? = some x → (A.Sh x.loc ∧ x.kind ≠ .plain) ∨ (¬ A.Sh x.loc ∧ ¬ A.O x.loc ∧ x.loc.isMemory = true ∧ (∀ k, 1 ≤ k → k ≤ j → ¬ A.Own k x.loc) ∧ (x.write = true → ∀ k, 1 ≤ k → k ≤ j → ¬ A.Rd k x.loc))
def MayW (k : Nat) (op : MemOp) : Prop :=
 op.g = k ∧ ∀ x, op.act.touch? = some x → (A.Sh x.loc ∧ x.kind ≠ .plain ∧ x.kind ≠ .said) ∨ A.Own k x.loc ∨ (A.Rd k x.loc ∧ x.write = false)
end
section
variable {A : Fam} {t u : Trace} {j : Nat}
theorem old_app (h : ∀ i a, touchAt t i = some a → a.loc.isMemory = true → A.O a.loc → Knows t 0 i ∨ a.kind = .atomic) (hu : ∀ op ∈ u, ∀ x, op.act.touch? = some x → ¬ A.O x.loc) :
   ∀ i a, touchAt (t ++ u) i = some a → a.loc.isMemory = true → A.O a.loc → Knows (t ++ u) 0 i ∨ a.kind = .atomic := by
 intro i a ha hm ho
 obtain ⟨x, hx, hxa⟩ := touch_of ha
 rcases getElem?_append_cases hx with ⟨hi, hx'⟩ | ⟨_, hxu⟩
 · exact (h i a (by rw [touchAt_of hx']; exact hxa) hm ho).imp (·.app u) id
 · exact absurd ho (hu x hxu a hxa)
theorem Tr.app0 (S : A.Apart) (h : Tr A t j) (hu : ∀ op ∈ u, May0 A j op) (hsO : ∀ l, A.Sh l → ¬ A.O l) : Tr A (t ++ u) j := by
 refine ⟨h.quiet.app fun op hop x hx hs => ?_, old_app h.old fun op hop x hx ho => ?_, fun k k1 kj l hl => (h.own k k1 kj l hl).app fun op hop b hb e => ?_, fun k k1 kj l hl => (h.rd k k1 kj l hl).app fun op hop b hb e hw => ?_,
   fun l hm hs ho hl => (h.free l hm hs ho hl).app fun op hop _ _ _ => (hu op hop).1, fun l hm hs ho hl => (h.mine l hm hs ho hl).app fun op hop _ _ _ _ => (hu op hop).1, fun said => ?_⟩
 · rcases (hu op hop).2 x hx with ⟨_, hk⟩ | ⟨hn, _⟩
   · exact ⟨hk, fun _ => (hu op hop).1⟩
   · exact absurd hs hn
 · rcases (hu op hop).2 x hx with ⟨hs, _⟩ | ⟨_, hn, _⟩
   · exact hsO _ hs ho
   · exact hn ho
 · subst e
   rcases (hu op hop).2 b hb with ⟨hs, _⟩ | ⟨_, _, _, hn, _⟩
   · exact absurd hs (S.ownSh k _ hl).1
   · exact absurd hl (hn k k1 kj)
 · subst e
   rcases (hu op hop).2 b hb with ⟨hs, _⟩ | ⟨_, _, _, _, hn⟩
   · exact absurd hs (S.rdSh k _ hl).1
   · exact absurd hl (hn hw k k1 kj)
 · refine noRace_append (h.nr said) (fun op hop => (hu op hop).1) fun i a ha op hop b hb hc => ?_
   rcases (hu op hop).2 b hb with ⟨hs, hk⟩ | ⟨hs, ho, hm, hno, hnr⟩
   · exact h.quiet.known hs hk (fun _ => rfl) i a ha hc
   · cases hbw : b.write with
     | true => exact h.free b.loc hm hs ho (fun k k1 kj => ⟨hno k k1 kj, hnr hbw k k1 kj⟩) i a ha hc.1
     | false => exact h.mine b.loc hm hs ho hno i a ha hc.1 (hc.2.2.1.resolve_right (by simp [hbw]))
theorem Tr.appW (S : A.Apart) (h : Tr A t j) {k : Nat} (k1 : 1 ≤ k) (kj : k ≤ j) (hu : ∀ op ∈ u, MayW A k op) (hsO : ∀ l, A.Sh l → ¬ A.O l) : Tr A (t ++ u) j := by
 refine ⟨h.quiet.app fun op hop x hx hs => ?_, old_app h.old fun op hop x hx ho => ?_, fun k' k1' kj' l hl => (h.own k' k1' kj' l hl).app fun op hop b hb e => ?_, fun k' k1' kj' l hl => (h.rd k' k1' kj' l hl).app fun op hop b hb e hw => ?_,
   fun l hm hs ho hl => (h.free l hm hs ho hl).app fun op hop b hb e => ?_, fun l hm hs ho hl => (h.mine l hm hs ho hl).app fun op hop b hb e hw => ?_, fun said => ?_⟩
 · rcases (hu op hop).2 x hx with ⟨_, hk, hn⟩ | hw | ⟨hr, _⟩
   · exact ⟨hk, fun e => absurd e hn⟩
   · exact absurd hs (S.ownSh k _ hw).1
   · exact absurd hs (S.rdSh k _ hr).1
 · rcases (hu op hop).2 x hx with ⟨hs, _⟩ | hw | ⟨hr, _⟩
   · exact hsO _ hs ho
   · exact (S.ownSh k _ hw).2.1 ho
   · exact (S.rdSh k _ hr).2.1 ho
 · subst e
   rcases (hu op hop).2 b hb with ⟨hs, _⟩ | hw | ⟨hr, _⟩
   · exact absurd hs (S.ownSh k' _ hl).1
   · rw [(hu op hop).1]; exact S.own k k' _ hw hl
   · exact absurd hr (S.ownRd k' k _ hl)
 · subst e
   rcases (hu op hop).2 b hb with ⟨hs, _⟩ | hw' | ⟨_, hr⟩
   · exact absurd hs (S.rdSh k' _ hl).1
   · exact absurd hl (S.ownRd k k' _ hw')
   · rw [hr] at hw; cases hw
 · subst e
   rcases (hu op hop).2 b hb with ⟨hs', _⟩ | hw | ⟨hr, _⟩
   · exact absurd hs' hs
   · exact absurd hw (hl k k1 kj).1
   · exact absurd hr (hl k k1 kj).2
 · subst e
   rcases (hu op hop).2 b hb with ⟨hs', _⟩ | hw' | ⟨_, hr⟩
   · exact absurd hs' hs
   · exact absurd hw' (hl k k1 kj)
   · rw [hr] at hw; cases hw
 · refine noRace_append (h.nr said) (fun op hop => (hu op hop).1) fun i a ha op hop b hb hc => ?_
   rcases (hu op hop).2 b hb with ⟨hs, hk, hn⟩ | hw | ⟨hr, hbw⟩
   · exact h.quiet.known hs hk (fun e => absurd e hn) i a ha hc
   · exact h.own k k1 kj b.loc hw i a ha hc.1
   · exact h.rd k k1 kj b.loc hr i a ha hc.1 (hc.2.2.1.resolve_right (by simp [hbw]))
theorem old_touch {x y : Trace} (hn : ∀ op ∈ y, op.act.touch? = none) {i : Nat} {a : Touch} (ha : touchAt (x ++ y) i = some a) : touchAt x i = some a := by
 obtain ⟨z, hz, hza⟩ := touch_of ha
 rcases getElem?_append_cases hz with ⟨_, hz'⟩ | ⟨_, hzu⟩
 · rw [touchAt_of hz']; exact hza
 · rw [hn z hzu] at hza; cases hza
theorem Tr.appMute (h : Tr A t j) {g : Nat} (hn : ∀ op ∈ u, op.act.touch? = none) (hg : ∀ op ∈ u, op.g = g) : Tr A (t ++ u) j :=
 ⟨h.quiet.app fun op hop x hx _ => (by rw [hn op hop] at hx; cases hx), old_app h.old fun op hop x hx => (by rw [hn op hop] at hx; cases hx),
   fun k k1 kj l hl i a ha e => (h.own k k1 kj l hl i a (old_touch hn ha) e).app u, fun k k1 kj l hl i a ha e hw => (h.rd k k1 kj l hl i a (old_touch hn ha) e hw).app u,
   fun l hm hs ho hl i a ha e => (h.free l hm hs ho hl i a (old_touch hn ha) e).app u, fun l hm hs ho hl i a ha e hw => (h.mine l hm hs ho hl i a (old_touch hn ha) e hw).app u,
   fun said => noRace_append (h.nr said) hg fun i a _ op hop b hb _ => (by rw [hn op hop] at hb; cases hb)⟩
theorem Tr.fork (S : A.Apart) (h : Tr A t j) {x y : MemOp} (hx : x.g = 0 ∧ x.act = .go (j + 1)) (hy : y.g = j + 1 ∧ y.act = .start) (h0 : Deaf t 0 = 0) (hk : Deaf t (j + 1) = 0) : Tr A (t ++ #[x, y]) (j + 1) := by
 have hnt : ∀ op ∈ #[x, y], op.act.touch? = none := by
   intro op hop
   simp only [List.mem_toArray, List.mem_cons, List.not_mem_nil, or_false] at hop
   rcases hop with rfl | rfl
   · rw [hx.2]; rfl
   · rw [hy.2]; rfl
 refine ⟨h.quiet.app fun op hop b hb _ => (by rw [hnt op hop] at hb; cases hb), old_app h.old fun op hop b hb => (by rw [hnt op hop] at hb; cases hb), fun k k1 kj l hl => ?_, fun k k1 kj l hl => ?_,
   fun l hm hs ho hl i a ha e => (h.free l hm hs ho (fun k k1 kj => hl k k1 (by omega)) i a (old_touch hnt ha) e).app _, fun l hm hs ho hl i a ha e hw => (h.mine l hm hs ho (fun k k1 kj => hl k k1 (by omega)) i a (old_touch hnt ha) e hw).app _, fun said => ?_⟩
 · rcases Nat.lt_or_ge j k with hlt | hge
   · obtain rfl : k = j + 1 := by omega
     obtain ⟨q1, q2, q3⟩ := S.ownSh _ l hl
     exact fun i a ha e => fork_knows hx hy h0 hk (h.free l q3 q1 q2 (fun k' _ k'j => ⟨fun ho => by have := S.own _ _ l ho hl; omega, S.ownRd _ _ l hl⟩) i a (old_touch hnt ha) e)
   · exact fun i a ha e => (h.own k k1 hge l hl i a (old_touch hnt ha) e).app _
 · rcases Nat.lt_or_ge j k with hlt | hge
   · obtain rfl : k = j + 1 := by omega
     obtain ⟨q1, q2, q3⟩ := S.rdSh _ l hl
     exact fun i a ha e hw => fork_knows hx hy h0 hk (h.mine l q3 q1 q2 (fun k' _ _ ho => S.ownRd _ _ l ho hl) i a (old_touch hnt ha) e hw)
   · exact fun i a ha e hw => (h.rd k k1 hge l hl i a (old_touch hnt ha) e hw).app _
 · have e : t ++ #[x, y] = (t ++ #[x]) ++ #[y] := by apply Array.ext'; simp
   rw [e]
   refine noRace_append (g := j + 1) (noRace_append (g := 0) (h.nr said) (fun op hop => by simp at hop; rw [hop]; exact hx.1) (fun i a _ op hop b hb _ => ?_)) (fun op hop => by simp at hop; rw [hop]; exact hy.1) (fun i a _ op hop b hb _ => ?_)
   · rw [hnt op (by simp at hop ⊢; exact .inl hop)] at hb; cases hb
   · rw [hnt op (by simp at hop ⊢; exact .inr hop)] at hb; cases hb
theorem Tr.change {A' : Fam} (h : Tr A t j) (e1 : A'.Sh = A.Sh) (e2 : A'.O = A.O) (e3 : ∀ k, k ≤ j → A'.Own k = A.Own k) (e4 : ∀ k, k ≤ j → ∀ l, A.Rd k l → A'.Rd k l) (e5 : ∀ k, k ≤ j → ∀ l, A'.Rd k l → A.Rd k l ∨ ∀ i a, touchAt t i = some a → a.loc ≠ l) : Tr A' t j := by
 refine ⟨e1 ▸ h.quiet, fun i a ha hm ho => h.old i a ha hm (e2 ▸ ho), fun k k1 kj l hl => h.own k k1 kj l (e3 k kj ▸ hl), fun k k1 kj l hl => ?_, fun l hm hs ho hl => ?_, fun l hm hs ho hl => ?_, h.nr⟩
 · rcases e5 k kj l hl with h' | h'
   · exact h.rd k k1 kj l h'
   · exact fun i a ha e _ => absurd e (h' i a ha)
 · exact h.free l hm (e1 ▸ hs) (e2 ▸ ho) fun k k1 kj => ⟨fun x => (hl k k1 kj).1 ((e3 k kj).symm ▸ x), fun x => (hl k k1 kj).2 (e4 k kj l x)⟩
 · exact h.mine l hm (e1 ▸ hs) (e2 ▸ ho) fun k k1 kj x => hl k k1 kj ((e3 k kj).symm ▸ x)
end
section
variable {A : Fam} {t t0 u : Trace} {j : Nat} {B : Nat}
theorem Tr.begin (h : Past A.O B t0) (hs : ∀ i a, touchAt t0 i = some a → ¬ A.Sh a.loc) {j : Nat} (hn : ∀ k, k ≤ j → (∀ l, ¬ A.Own k l) ∧ ∀ l, ¬ A.Rd k l) : Tr A t0 j := by
 refine ⟨fun i op x hi hx hsx => absurd hsx (hs i x (by rw [touchAt_of hi]; exact hx)), fun i a ha hm ho => (h.known i a ha hm).imp id fun x => x.2, fun k _ kj l hl => absurd hl ((hn k kj).1 l), fun k _ kj l hl => absurd hl ((hn k kj).2 l), fun l hm _ ho _ i a ha e => ?_, fun l hm _ ho _ i a ha e _ => ?_, h.clean⟩
 · subst e
   exact (h.known i a ha hm).resolve_right fun x => ho x.1
 · subst e
   exact (h.known i a ha hm).resolve_right fun x => ho x.1
structure Suf (A : Fam) (a : Addr) (t0 u : Trace) : Prop where
 atom : ∀ op ∈ u, ∀ x, op.act.touch? = some x → x.kind = .atomic → A.Sh x.loc
 norel : ∀ op ∈ u, op.act ≠ .mark (.release a)
theorem Suf.app {a : Addr} {t0 u v : Trace} (h : Suf A a t0 u) (h1 : ∀ op ∈ v, ∀ x, op.act.touch? = some x → x.kind = .atomic → A.Sh x.loc) (h2 : ∀ op ∈ v, op.act ≠ .mark (.release a)) : Suf A a t0 (u ++ v) :=
 ⟨fun op hop => (Array.mem_append.1 hop).elim (h.atom op) (h1 op), fun op hop => (Array.mem_append.1 hop).elim (h.norel op) (h2 op)⟩
theorem Tr.finish {O1 : Loc → Prop} {a : Addr} {q : Nat} (h : Tr A (t0 ++ u) j) (hP : Past A.O B t0) (hS : Suf A a t0 u) (hO : ∀ l, A.Sh l ∨ A.O l → O1 l) (hn0 : NoRelease a t0)
   (all : ∀ i g, t0.size ≤ i → (t0 ++ u).g? i = some g → g ≠ 0 → (touchAt (t0 ++ u) i).isSome = true → ∃ r, RelBy a (t0 ++ u) g r ∧ r < q)
   (hq : (t0 ++ u).act? q = some (.mark (.acquire a))) (hg : (t0 ++ u).g? q = some 0) (hh : (t0 ++ u).heard q) (hd : Deaf (t0 ++ u) 0 = 0) {B' : Nat} (hs : ∀ op ∈ t0 ++ u, op.act.low B') : Past O1 B' (t0 ++ u) := by
 have hn : NoRelease a (t0 ++ u) := hn0.app hS.norel
 have join : ∀ i g, t0.size ≤ i → (t0 ++ u).g? i = some g → g ≠ 0 → (t0 ++ u).counts i → HappensBefore (t0 ++ u) i q := by
   intro i g hi hgi hne hc
   obtain ⟨x, hx, _⟩ := id hc
   obtain ⟨r, hr, hrq⟩ := all i g hi hgi hne (by unfold touchAt; rw [hx]; rfl)
   have edge : HappensBefore (t0 ++ u) r q := .single (.inr ⟨.marked hrq (.inr hr.act) hq (fun k _ _ => hn k), hr.heard, hh⟩)
   have hle : i ≤ r := Nat.le_of_not_lt fun hlt => hr.after i hlt hgi hc
   rcases Nat.lt_or_ge i r with hlt | hge
   · exact .trans (.single (.inl ⟨hlt, g, hgi, hr.g⟩)) edge
   · obtain rfl : i = r := by omega
     exact edge
 have hqz : ∃ z, (t0 ++ u)[q]? = some z ∧ z.g = 0 := by
   obtain ⟨z, hz, hzg⟩ := Option.map_eq_some_iff.1 hg
   exact ⟨z, hz, hzg⟩
 obtain ⟨z, hz, hzg⟩ := hqz
 refine ⟨h.nr, fun i b hb hm => ?_, fun i g hgi hne hc => ?_, hd, hs⟩
 · rcases Nat.lt_or_ge i t0.size with hi | hi
   · rw [touchAt_old hi] at hb
     exact (hP.known i b hb hm).imp (·.app u) fun x => ⟨hO _ (.inr x.1), x.2⟩
   · obtain ⟨op, hop, hopb⟩ := touch_of hb
     have hgo : (t0 ++ u).g? i = some op.g := by simp [Trace.g?, hop]
     by_cases h0 : op.g = 0
     · have := knows_own hop
       rw [h0] at this
       exact .inl this
     · by_cases hc : b.kind ≠ .atomic ∨ (t0 ++ u).heard i
       · exact .inl ⟨q, z, hz, hzg, .inr (join i op.g hi hgo h0 ⟨b, hb, hm, hc⟩)⟩
       · have hk : b.kind = .atomic := Classical.byContradiction fun x => hc (.inl x)
         have hou : op ∈ u := by
           rcases getElem?_append_cases hop with ⟨hlt, _⟩ | ⟨_, x⟩
           · omega
           · exact x
         exact .inr ⟨hO _ (.inl (hS.atom op hou b hopb hk)), hk⟩
 · rcases Nat.lt_or_ge i t0.size with hi | hi
   · obtain ⟨k, hk, hb⟩ := hP.over i g (by rw [← g?_old (u := u) hi]; exact hgi) hne ((counts_old hi).1 hc)
     have hkl : k < t0.size := by
       obtain ⟨z, hz, _⟩ := Option.map_eq_some_iff.1 hk
       exact lt_size_of_getElem? hz
     exact ⟨k, by rw [g?_old hkl]; exact hk, hb_app u hb⟩
   · exact ⟨q, hg, join i g hi hgi hne hc⟩
end
end Go.Proofs.Ytcoppnbjpncdcaa.Q
end
section
set_option linter.unusedVariables false
namespace Go.Proofs.Ytcoppnbjpncdcaa.Q
open Go Go.Conc
open Go.ConcR (KK WgAt wgBlock stA smA rd wr mk)
open Go.ConcM (OsLater)
section
variable (C : Cfg) (P : Program) (vals : Nat → Value × Value × Value)
def Cl (w : World) (b : Nat) : Prop := ∃ c t, w.heap[b]? = some (.cells c t)
def Has (i : Nat) (w : World) : Prop := w.cell? ⟨C.G, 2 * i, none⟩ = some (vals i).1 ∧ w.cell? ⟨C.G, 2 * i + 1, none⟩ = some (vals i).2.1 ∧ w.cell? ⟨C.H, i, none⟩ = some (vals i).2.2
def Zr (i : Nat) (w : World) : Prop := w.cell? ⟨C.G, 2 * i, none⟩ = some (.int .i64 0) ∧ w.cell? ⟨C.G, 2 * i + 1, none⟩ = some (.int .i64 0) ∧ w.cell? ⟨C.H, i, none⟩ = some (.bool false)
abbrev GW (Kb : Nat → Prop) (i : Nat) (S : Goroutine → World → Prop) (f : Nat) (g : Goroutine) (w : World) : Prop := Goes P false (Ry C (· = i) Kb) (Dk C Kb i) S f g w
def D0 (w w' : World) (es : Array Event) : Prop := w' = w ∧ es = #[]
abbrev GW0 (Kb : Nat → Prop) (i : Nat) (S : Goroutine → World → Prop) (f : Nat) (g : Goroutine) (w : World) : Prop := Goes P false (Ry C (· = i) Kb) D0 S f g w
section
variable (Kb : Nat → Prop) (i : Nat)
def WD4 (g : Goroutine) (w : World) : Prop :=
 g.status = .running ∧ mayWake P g = true ∧ (WgAt C.tW C.Wg w 0 0 → ∃ g' q, stepG P false g w = .go g' (w.setCell (smA C.Wg) (.int .u32 1)) (semEvents (smA C.Wg)) ∧ QuitsD P q 1 g')
def WD3 (g : Goroutine) (w : World) : Prop :=
 g.status = .running ∧ (WgAt C.tW C.Wg w 1 0 → ∃ g' f, stepG P false g w = .go g' (w.setCell (stA C.Wg) (.int .u64 0)) #[wr (stA C.Wg)] ∧ GW0 C P Kb i (WD4 C P) f g' (w.setCell (stA C.Wg) (.int .u64 0)))
def WD2 (g : Goroutine) (w : World) : Prop :=
 g.status = .running ∧ (WgAt C.tW C.Wg w 1 0 → ∃ g' f, stepG P false g w = .go g' w #[rd (stA C.Wg)] ∧ GW0 C P Kb i (WD3 C P Kb i) f g' w)
def WD1 (g : Goroutine) (w : World) : Prop :=
 g.status = .running ∧ ∀ v wt : Nat, wt ≤ 1 → v < 16 → WgAt C.tW C.Wg w ((v + 1) * KK + wt) 0 →
   ∃ g', stepG P false g w = .go g' (w.setCell (stA C.Wg) (.int .u64 (v * KK + wt))) #[rd (stA C.Wg), wr (stA C.Wg)] ∧
     ((v = 0 ∧ wt = 1) → ∃ f, GW0 C P Kb i (WD2 C P Kb i) f g' (w.setCell (stA C.Wg) (.int .u64 (v * KK + wt)))) ∧ (¬ (v = 0 ∧ wt = 1) → ∃ q, QuitsD P q 1 g')
def WK1 (g : Goroutine) (w : World) : Prop :=
 g.status = .running ∧ ∃ g' f, stepG P false g w = .go g' w #[mk .disable] ∧ GW0 C P Kb i (WD1 C P Kb i) f g' w
def WR0 (g : Goroutine) (w : World) : Prop :=
 g.status = .running ∧ Has C vals i w ∧ ∃ g' f, stepG P false g w = .go g' w #[mk (.releaseMerge (stA C.Wg))] ∧ GW0 C P Kb i (WK1 C P Kb i) f g' w
def WMu (T : Th) (g : Goroutine) (w : World) : Prop := AtS C P Kb i (fun g w => ∃ f, GW C P Kb i (WR0 C P vals Kb i) f g w) T g w
end
def WBx (Kb : Nat → Prop) (i : Nat) (g : Goroutine) (w : World) : Prop :=
 g.status = .running ∧ ∃ g' f ob, (∃ c t, ob = Obj.cells c t) ∧ stepG P false g w = .go g' { w with heap := w.heap.push ob } #[] ∧
   GW C P (fun b => Kb b ∨ b = w.heap.size) i (WMu C P vals (fun b => Kb b ∨ b = w.heap.size) i (at_ .ld)) f g' { w with heap := w.heap.push ob }
structure Mn (Pv : Nat → Prop) (w w' : World) : Prop where
 tape : w'.tape = w.tape
 os : w'.os = w.os
 out : w'.output = w.output
 size : w'.heap.size = w.heap.size
 block : ∀ b : Nat, ¬ Pv b → w'.heap[b]? = w.heap[b]?
 shp : ∀ b : Nat, Cl w b → Cl w' b
def EvM (Kr Pv : Nat → Prop) (N : Nat) (e : Event) : Prop :=
 (∃ a x, e = ⟨.cell a, x, false⟩ ∧ a.block < N ∧ (Pv a.block ∨ (x = false ∧ Kr a.block))) ∨ e = ⟨.mark (.read (smA C.Wg)), false, true⟩ ∨ e = ⟨.mark (.write (smA C.Wg)), false, true⟩
def Dm (Kr Pv : Nat → Prop) (w w' : World) (es : Array Event) : Prop := Mn Pv w w' ∧ ∀ e ∈ es, EvM C Kr Pv w'.heap.size e
abbrev Rm (Kr Pv : Nat → Prop) : World → World → Prop := Ry C (fun _ => False) (fun b => Kr b ∨ Pv b)
abbrev GM (Kr Pv : Nat → Prop) (S : Goroutine → World → Prop) (f : Nat) (g : Goroutine) (w : World) : Prop := Goes P true (Rm C Kr Pv) (Dm C Kr Pv) S f g w
def none0 : Nat → Prop := fun _ => False
def pv (bi br : Nat) : Nat → Prop := fun b => b = bi ∨ b = br
variable (Kr K0 : Nat → Prop)
def KbI (bi br : Nat) : Nat → Prop := fun b => K0 b ∨ b = bi ∨ b = br
section
variable (j : Nat) (Nx : Goroutine → World → Prop)
def MGo (bi br : Nat) (g : Goroutine) (w : World) : Prop :=
 g.status = .running ∧ ∃ g' child f, stepG P true g w = .spawn g' child w #[] ∧ child.status = .running ∧ (Zr C j w → GW C P (KbI K0 bi br) j (WBx C P vals (KbI K0 bi br) j) f child w) ∧ Nx g' w
def MSe (bi br : Nat) (g : Goroutine) (w : World) : Prop :=
 g.status = .running ∧ ∃ g' f, stepG P true g w = .go g' w #[mk .enable] ∧ GM C P Kr (pv bi br) (MGo C P vals K0 j Nx bi br) f g' w
def MSa (bi br : Nat) (g : Goroutine) (w : World) : Prop :=
 g.status = .running ∧ ∀ v : Nat, v < 16 → WgAt C.tW C.Wg w (v * KK) 0 →
   ∃ g' f, stepG P true g w = .go g' (w.setCell (stA C.Wg) (.int .u64 ((v + 1) * KK))) #[rd (stA C.Wg), wr (stA C.Wg)] ∧ GM C P Kr (pv bi br) (MSe C P vals Kr K0 j Nx bi br) f g' (w.setCell (stA C.Wg) (.int .u64 ((v + 1) * KK)))
def MSk (bi br : Nat) (g : Goroutine) (w : World) : Prop :=
 g.status = .running ∧ ∃ g' f, stepG P true g w = .go g' w #[mk .disable] ∧ GM C P Kr (pv bi br) (MSa C P vals Kr K0 j Nx bi br) f g' w
def MA2 (bi : Nat) (g : Goroutine) (w : World) : Prop :=
 g.status = .running ∧ ∃ g' f ob, (∃ c t, ob = Obj.cells c t) ∧ stepG P true g w = .go g' { w with heap := w.heap.push ob } #[] ∧ GM C P Kr (pv bi w.heap.size) (MSk C P vals Kr K0 j Nx bi w.heap.size) f g' { w with heap := w.heap.push ob }
def MA1 (g : Goroutine) (w : World) : Prop :=
 g.status = .running ∧ ∃ g' f ob, (∃ c t, ob = Obj.cells c t) ∧ stepG P true g w = .go g' { w with heap := w.heap.push ob } #[] ∧ GM C P Kr (pv w.heap.size w.heap.size) (MA2 C P vals Kr K0 j Nx w.heap.size) f g' { w with heap := w.heap.push ob }
end
def MSpawn (Fin : Goroutine → World → Prop) : Nat → Goroutine → World → Prop
 | 0, g, w => Fin g w
 | r + 1, g, w => ∃ f, GM C P Kr none0 (MA1 C P vals Kr K0 (C.n - (r + 1)) (MSpawn Fin r)) f g w
section
variable (Anch F0 : Goroutine → World → Prop)
def MAcq (g : Goroutine) (w : World) : Prop :=
 g.status = .running ∧ ∃ g', stepG P true g w = .go g' w #[mk (.acquire (stA C.Wg))] ∧ F0 g' w
def MKe (g : Goroutine) (w : World) : Prop :=
 g.status = .running ∧ ∃ g' f, stepG P true g w = .go g' w #[mk .enable] ∧ GM C P Kr none0 (MAcq C P F0) f g' w
def MW4 (g : Goroutine) (w : World) : Prop :=
 g.status = .running ∧ (WgAt C.tW C.Wg w 0 0 → ∃ g' f, stepG P true g w = .go g' w #[rd (stA C.Wg)] ∧ GM C P Kr none0 (MKe C P Kr F0) f g' w)
def MW3 (g : Goroutine) (w : World) : Prop :=
 g.status = .running ∧ g.offers = none ∧ ((∃ st, WgAt C.tW C.Wg w st 0) → stepG P true g w = .go { g with status := .blocked } w #[]) ∧
   (WgAt C.tW C.Wg w 0 1 → ∃ g' f, stepG P true g w = .go g' (w.setCell (smA C.Wg) (.int .u32 0)) (semEvents (smA C.Wg)) ∧ GM C P Kr none0 (MW4 C P Kr F0) f g' (w.setCell (smA C.Wg) (.int .u32 0)))
def MW2 (vs : Nat) (g : Goroutine) (w : World) : Prop :=
 g.status = .running ∧ ∀ v : Nat, v < 16 → WgAt C.tW C.Wg w (v * KK) 0 →
   (v = vs → ∃ g' f, stepG P true g w = .go g' (w.setCell (stA C.Wg) (.int .u64 (v * KK + 1))) #[rd (stA C.Wg), wr (stA C.Wg)] ∧ GM C P Kr none0 (MW3 C P Kr F0) f g' (w.setCell (stA C.Wg) (.int .u64 (v * KK + 1)))) ∧
   (v ≠ vs → ∃ g' f, stepG P true g w = .go g' w #[rd (stA C.Wg)] ∧ GM C P Kr none0 Anch f g' w)
def MW1 (g : Goroutine) (w : World) : Prop :=
 g.status = .running ∧ ∀ v : Nat, v < 16 → WgAt C.tW C.Wg w (v * KK) 0 → ∃ g', stepG P true g w = .go g' w #[rd (stA C.Wg)] ∧
   (v = 0 → ∃ f, GM C P Kr none0 (MKe C P Kr F0) f g' w) ∧ (v ≠ 0 → ∃ f, GM C P Kr none0 (MW2 C P Kr Anch F0 v) f g' w)
def MKd (g : Goroutine) (w : World) : Prop :=
 g.status = .running ∧ ∃ g' f, stepG P true g w = .go g' w #[mk .disable] ∧ GM C P Kr none0 Anch f g' w
def MFin (g : Goroutine) (w : World) : Prop := ∃ f, GM C P Kr none0 (MKd C P Kr Anch) f g w
end
end
theorem goes_seq {P : Program} {main : Bool} {R : World → World → Prop} {D : World → World → Array Event → Prop} {S S' : Goroutine → World → Prop} (hr : ∀ w, R w w) {m : Nat} (hS : ∀ g w, S g w → Goes P main R D S' m g w) : ∀ {n : Nat} {g : Goroutine} {w : World}, Goes P main R D S n g w → Goes P main R D S' (n + m) g w
 | 0, g, w, h => by rw [Nat.zero_add]; exact hS g w (h w (hr w))
 | n + 1, g, w, h => by
   rcases h with h | ⟨hs, h⟩
   · exact Go.ConcM.goes_le (by omega) (hS g w (h w (hr w)))
   · rw [show n + 1 + m = (n + m) + 1 by omega]
     refine .inr ⟨hs, fun w₁ h₁ => ?_⟩
     have := h w₁ h₁
     cases hgo : stepG P main g w₁ with
     | go g' w' es => rw [hgo] at this; exact ⟨this.1, goes_seq hr hS this.2⟩
     | _ => rw [hgo] at this; exact this.elim
end Go.Proofs.Ytcoppnbjpncdcaa.Q
end
section
set_option linter.unusedVariables false
set_option linter.unusedSimpArgs false
namespace Go.Proofs.Ytcoppnbjpncdcaa.Q
open Go Go.Conc
open Go.ConcR (KK WgAt wgBlock stA smA rd wr mk)
open Go.ConcM (OsLater)
open Go.ConcN (sumTo upd sumTo_upd upd_ne upd_same le_sumTo sumTo_congr RelBy)
inductive Wp where
 | bx | mu (T : Th) | bk (T : Th) | wr | wk | d1 | d2 | d3 | d4 | q
def Wp.th : Wp → Th
 | .bx => at_ .ld
 | .mu T | .bk T => T
 | _ => at_ .out
def Wp.cnt : Wp → Nat
 | .bx | .mu _ | .bk _ | .wr | .wk | .d1 => 1
 | _ => 0
def Wp.d23 : Wp → Nat
 | .d2 | .d3 => 1
 | _ => 0
def Wp.e4 : Wp → Nat
 | .d4 => 1
 | _ => 0
def thDeaf : Pc → Nat
 | .ld | .la | .ur | .ud | .out => 0
 | _ => 1
def Wp.wt : Wp → Nat
 | .bx => 40
 | .mu T | .bk T => 10 + wA T
 | .wr => 8
 | .wk => 7
 | .d1 => 6
 | .d2 => 5
 | .d3 => 4
 | .d4 => 3
 | .q => 0
def Wp.rk (m : Mx) : Wp → Nat
 | .mu T | .bk T => Q.rk m T
 | _ => 0
def Wp.awake : Wp → Nat
 | .bk _ => 0
 | _ => 1
def Wp.past : Wp → Prop
 | .wk | .d1 | .d2 | .d3 | .d4 | .q => True
 | _ => False
def Wp.said : Wp → Prop
 | .wk | .d1 | .d2 | .d3 | .d4 | .q => True
 | _ => False
def Wp.al : Wp → Nat
 | .bx => 0
 | _ => 1
structure WD where
 p : Wp
 f : Nat
 kb : Nat → Prop
def wake (b : Bool) (d : WD) : WD := if b then (match d.p with
 | .bk T => { d with p := .mu T }
 | _ => d) else d
inductive Mp where
 | a1 (r : Nat) | a2 (r bi : Nat) | sk (r bi br : Nat) | sa (r bi br : Nat) | se (r bi br : Nat) | go (r bi br : Nat) | kd | w1 | w2 (vs : Nat) | w3 | b3 | w4 | ke | acq
def Mp.pend : Mp → Nat
 | .se .. | .go .. => 1
 | _ => 0
def Mp.isOpen : Mp → Prop
 | .w3 | .b3 | .w4 | .ke | .acq => False
 | _ => True
def Mp.isW3 : Mp → Prop
 | .w3 | .b3 => True
 | _ => False
def Mp.isFin : Mp → Prop
 | .w4 | .ke | .acq => True
 | _ => False
def Mp.deaf : Mp → Nat
 | .sa .. | .se .. | .w1 | .w2 _ | .w3 | .b3 | .w4 | .ke => 1
 | _ => 0
def Mp.pv : Mp → Nat → Prop
 | .a2 _ bi => Q.pv bi bi
 | .sk _ bi br | .sa _ bi br | .se _ bi br | .go _ bi br => Q.pv bi br
 | _ => none0
def Mp.phi (v : Nat) : Mp → Nat
 | .a1 r => 100 * r + 106
 | .a2 r _ => 100 * r + 105
 | .sk r _ _ => 100 * r + 104
 | .sa r _ _ => 100 * r + 103
 | .se r _ _ => 100 * r + 102
 | .go r _ _ => 100 * r + 101
 | .kd => 60
 | .w1 => 3 * v + 20
 | .w2 vs => 3 * vs + 19
 | .w3 | .b3 => 15
 | .w4 => 14
 | .ke => 13
 | .acq => 12
def Mp.awake : Mp → Nat
 | .b3 => 0
 | _ => 1
def Mp.al : Mp → Nat
 | .a2 .. => 1
 | .sk .. | .sa .. | .se .. | .go .. => 2
 | _ => 0
def Mp.left : Mp → Nat
 | .a1 r | .a2 r _ | .sk r _ _ | .sa r _ _ | .se r _ _ | .go r _ _ => r + 1
 | _ => 0
def wakeM (b : Bool) (t : Mp) : Mp := if b then (match t with
 | .b3 => .w3
 | t => t) else t
structure WInv (j : Nat) (D : Nat → Wp) (tag : Mp) (v wt sm : Nat) : Prop where
 opn : tag.isOpen → v = (sumTo j fun i => (D i).cnt) + tag.pend ∧ wt = 0 ∧ sm = 0 ∧ (sumTo j fun i => (D i).d23) = 0 ∧ (sumTo j fun i => (D i).e4) = 0
 w3 : tag.isW3 → v = (sumTo j fun i => (D i).cnt) ∧ ((1 ≤ v ∧ wt = 1 ∧ sm = 0 ∧ (sumTo j fun i => (D i).d23) = 0 ∧ (sumTo j fun i => (D i).e4) = 0) ∨ (v = 0 ∧ wt = 1 ∧ sm = 0 ∧ (sumTo j fun i => (D i).d23) = 1 ∧ (sumTo j fun i => (D i).e4) = 0) ∨
   (v = 0 ∧ wt = 0 ∧ sm = 0 ∧ (sumTo j fun i => (D i).d23) = 0 ∧ (sumTo j fun i => (D i).e4) = 1) ∨ (v = 0 ∧ wt = 0 ∧ sm = 1 ∧ (sumTo j fun i => (D i).d23) = 0 ∧ (sumTo j fun i => (D i).e4) = 0))
 fin : tag.isFin → v = 0 ∧ wt = 0 ∧ sm = 0 ∧ (sumTo j fun i => (D i).cnt) = 0 ∧ (sumTo j fun i => (D i).d23) = 0 ∧ (sumTo j fun i => (D i).e4) = 0
 seen : ∀ vs, tag = .w2 vs → v ≤ vs ∧ 1 ≤ vs
 blk : tag = .b3 → sm = 0
section
variable (C : Cfg) (P : Program) (vals : Nat → Value × Value × Value) (Kr K0 : Nat → Prop) (Anch F0 : Goroutine → World → Prop)
def WS (i : Nat) (d : WD) (dd : Nat) (g : Goroutine) (w : World) : Prop := match d.p with
 | .bx => dd = 0 ∧ GW C P d.kb i (WBx C P vals d.kb i) d.f g w
 | .mu T => dd = thDeaf T.pc ∧ T.pc ≠ .out ∧ GW C P d.kb i (WMu C P vals d.kb i T) d.f g w
 | .bk T => dd = thDeaf T.pc ∧ T.pc = .s1 ∧ ∃ g0 : Goroutine, g = { g0 with status := .blocked } ∧ g0.status = .running ∧ g0.offers = none ∧ ∀ w₁, Ry C (· = i) d.kb w w₁ → WMu C P vals d.kb i T g0 w₁
 | .wr => dd = 0 ∧ GW C P d.kb i (WR0 C P vals d.kb i) d.f g w
 | .wk => dd = 0 ∧ GW0 C P d.kb i (WK1 C P d.kb i) d.f g w
 | .d1 => dd = 1 ∧ GW0 C P d.kb i (WD1 C P d.kb i) d.f g w
 | .d2 => dd = 1 ∧ GW0 C P d.kb i (WD2 C P d.kb i) d.f g w
 | .d3 => dd = 1 ∧ GW0 C P d.kb i (WD3 C P d.kb i) d.f g w
 | .d4 => dd = 1 ∧ GW0 C P d.kb i (WD4 C P) d.f g w
 | .q => QuitsD P d.f dd g
def MS (tag : Mp) (j f dd : Nat) (g : Goroutine) (w : World) : Prop :=
 let NX := fun r => MSpawn C P vals Kr K0 (MFin C P Kr Anch) r
 j + tag.left = C.n ∧ dd = tag.deaf ∧ match tag with
 | .a1 r => GM C P Kr none0 (MA1 C P vals Kr K0 j (NX r)) f g w
 | .a2 r bi => GM C P Kr (pv bi bi) (MA2 C P vals Kr K0 j (NX r) bi) f g w
 | .sk r bi br => GM C P Kr (pv bi br) (MSk C P vals Kr K0 j (NX r) bi br) f g w
 | .sa r bi br => GM C P Kr (pv bi br) (MSa C P vals Kr K0 j (NX r) bi br) f g w
 | .se r bi br => GM C P Kr (pv bi br) (MSe C P vals Kr K0 j (NX r) bi br) f g w
 | .go r bi br => GM C P Kr (pv bi br) (MGo C P vals K0 j (NX r) bi br) f g w
 | .kd => GM C P Kr none0 (MKd C P Kr Anch) f g w
 | .w1 => GM C P Kr none0 (MW1 C P Kr Anch F0) f g w
 | .w2 vs => GM C P Kr none0 (MW2 C P Kr Anch F0 vs) f g w
 | .w3 => GM C P Kr none0 (MW3 C P Kr F0) f g w
 | .b3 => ∃ g0 : Goroutine, g = { g0 with status := .blocked } ∧ g0.status = .running ∧ g0.offers = none ∧ ∀ w₁, Rm C Kr none0 w w₁ → MW3 C P Kr F0 g0 w₁
 | .w4 => GM C P Kr none0 (MW4 C P Kr F0) f g w
 | .ke => GM C P Kr none0 (MKe C P Kr F0) f g w
 | .acq => GM C P Kr none0 (MAcq C P F0) f g w
def Shr (l : Loc) : Prop := l = .cell (muA C) ∨ l = .cell (msA C) ∨ l = .cell (stA C.Wg) ∨ l = .cell (smA C.Wg)
def fam (O : Loc → Prop) (j0 : Nat) (kb : Nat → Nat → Prop) : Fam where
 Sh := Shr C
 O := O
 Own := fun k l => ∃ i a, k = j0 + 1 + i ∧ l = .cell a ∧ OwnC C i a
 Rd := fun k l => ∃ i a, k = j0 + 1 + i ∧ l = .cell a ∧ (kb i a.block ∨ (a.block = C.F ∧ 2 ≤ a.off))
def isG (b : Nat) : Prop := b = C.F ∨ b = C.G ∨ b = C.H ∨ b = C.Wg
structure Env where
 J : Nat → Prop
 j0 : Nat
 w0 : World
 t0 : Trace
structure EnvOk (E : Env) : Prop where
 apart : C.Apart
 n9 : C.n ≤ 9
 new : ∀ b, isG C b → b < E.w0.heap.size ∧ ¬ E.J b
 kr : ∀ b, Kr b → b < E.w0.heap.size ∧ ¬ E.J b ∧ ¬ isG C b
 k0 : ∀ b, K0 b → b < E.w0.heap.size ∧ ¬ E.J b ∧ ¬ isG C b
 jlow : ∀ b, E.J b → b < E.w0.heap.size
 anch : ∃ f, ∀ g w, Anch g w → GM C P Kr none0 (MW1 C P Kr Anch F0) f g w
structure Com (E : Env) (gs : Array Goroutine) (w : World) (u : Trace) (j : Nat) (D : Nat → WD) (pvt : Nat → Prop) (q : Nat → Nat) (m : Mx) (ms v wt sm : Nat) : Prop where
 size : gs.size = E.j0 + 1 + j
 old : ∀ k g, 1 ≤ k → k ≤ E.j0 → gs[k]? = some g → QuitsD P (q k) (Deaf (E.t0 ++ u) k) g
 wk : ∀ i, i < j → ∃ g, gs[E.j0 + 1 + i]? = some g ∧ WS C P vals i (D i) (Deaf (E.t0 ++ u) (E.j0 + 1 + i)) g w
 has : ∀ i, i < j → (D i).p.past → Has C vals i w
 rel : ∀ i, i < j → (D i).p.said → ∃ r, RelBy (stA C.Wg) (E.t0 ++ u) (E.j0 + 1 + i) r
 kbs : ∀ i, i < j → ∀ b, (D i).kb b → b < w.heap.size ∧ ¬ isG C b ∧ ¬ E.J b ∧ ¬ pvt b
 pvs : ∀ b, pvt b → b < w.heap.size ∧ E.w0.heap.size ≤ b
 above : ∀ k, gs.size ≤ k → Deaf (E.t0 ++ u) k = 0
 mu : MuAt C w m ms
 wg : WgAt C.tW C.Wg w ((v : Int) * KK + (wt : Int)) (sm : Int)
 gg : RowAt C.G C.tG (2 * C.n) w
 hh : RowAt C.H C.tH C.n w
 frame : ∀ b : Nat, b < E.w0.heap.size → ¬ isG C b → w.heap[b]? = E.w0.heap[b]?
 hsize : E.w0.heap.size ≤ w.heap.size
 os : OsLater E.w0.os w.os
 out : w.output = E.w0.output
 tr : Tr (fam C (fun l => ∃ a : Addr, l = .cell a ∧ E.J a.block) E.j0 fun i b => i < j ∧ (D i).kb b) (E.t0 ++ u) (E.j0 + j)
 suf : Suf (fam C (fun l => ∃ a : Addr, l = .cell a ∧ E.J a.block) E.j0 fun i b => i < j ∧ (D i).kb b) (stA C.Wg) E.t0 u
 low : ∀ op ∈ E.t0 ++ u, op.act.low w.heap.size
 who : ∀ op ∈ u, op.g = 0 ∨ op.act.touch? = none ∨ ∃ i, i < j ∧ op.g = E.j0 + 1 + i
 fresh : NoRelease (stA C.Wg) E.t0
 zero : ∀ i, j ≤ i → i < C.n → Zr C i w
 past0 : Past (fun l => ∃ a : Addr, l = .cell a ∧ E.J a.block) E.w0.heap.size E.t0
 shp : ∀ b : Nat, E.w0.heap.size ≤ b → b < w.heap.size → Cl w b
abbrev M3 := Nat × Nat × Nat
def Lt3 : M3 → M3 → Prop := Prod.Lex (· < ·) (Prod.Lex (· < ·) (· < ·))
theorem Lt3_wf : WellFounded Lt3 := (Prod.lex Nat.lt_wfRel (Prod.lex Nat.lt_wfRel Nat.lt_wfRel)).wf
def msr (j0 j : Nat) (D : Nat → WD) (tag : Mp) (f0 : Nat) (q : Nat → Nat) (n : Nat) (m : Mx) (ms v : Nat) : M3 :=
 ((sumTo j fun i => (D i).p.wt) + 2 * ms + tag.phi v, (sumTo j fun i => (D i).p.rk m), (n + 2) * ((sumTo j fun i => (D i).f) + f0 + sumTo (j0 + 1) q) + (sumTo j fun i => (D i).p.awake) + tag.awake)
structure PInv (E : Env) (μ : M3) (M : Machine) (t : Trace) (gs : Array Goroutine) (w : World) (sl : Option (Nat × Nat)) (u : Trace) (j : Nat) (D : Nat → WD) (tag : Mp) (f0 : Nat) (q : Nat → Nat) (m : Mx) (ms v wt sm : Nat) (a : Goroutine) : Prop where
 ok : EnvOk C P Kr K0 Anch F0 E
 isM : M = crowd gs w sl
 isT : t = E.t0 ++ u
 zero : gs[0]? = some a
 sit : MS C P vals Kr K0 Anch F0 tag j f0 (Deaf (E.t0 ++ u) 0) a w
 com : Com C P vals E gs w u j D tag.pv q m ms v wt sm
 mu : AInv j (fun i => (D i).p.th) m ms
 wg : WInv j (fun i => (D i).p) tag v wt sm
 blk : ∀ i, i < j → (∃ T, (D i).p = .bk T) → ms = 0
 cnt : w.heap.size = E.w0.heap.size + 2 * j + tag.al + sumTo j fun i => (D i).p.al
 isμ : μ = msr E.j0 j D tag f0 q C.n m ms v
def Invs (E : Env) (μ : M3) (M : Machine) (t : Trace) : Prop := ∃ gs w sl u j D tag f0 q m ms v wt sm a, PInv C P vals Kr K0 Anch F0 E μ M t gs w sl u j D tag f0 q m ms v wt sm a
end
end Go.Proofs.Ytcoppnbjpncdcaa.Q
end
section
namespace Go.Proofs.Ytcoppnbjpncdcaa.Sim
open Go
def weird : Obj := .view ⟨0, 0, some 0⟩ 0
def husk : Obj := .stringIter ⟨#[]⟩ 0
def Plain (o : Obj) : Prop := (∃ c t fr, o = .cells c t fr) ∨ (∃ a l, o = .number a l) ∨ o = husk
def SW (v : World) : Prop := ∀ (b : Nat) (o : Obj), v.heap[b]? = some o → Plain o ∨ o = husk ∨ o = weird
structure Rel (J : Nat → Prop) (w v : World) : Prop where
 size : v.heap.size = w.heap.size
 low : ∀ b, J b → b < w.heap.size
 blk : ∀ (b : Nat) (o : Obj), v.heap[b]? = some o →
   (¬ J b ∧ w.heap[b]? = some o ∧ Plain o) ∨
   (J b ∧ o = husk ∧ (w.heap[b]? = some husk ∨ ∃ c t, w.heap[b]? = some (.cells c t (0, 0)))) ∨
   (J b ∧ o = weird)
theorem Rel.sw {J : Nat → Prop} {w v : World} (h : Rel J w v) : SW v := by
 intro b o ho
 rcases h.blk b o ho with ⟨_, _, x⟩ | ⟨_, rfl, _⟩ | ⟨_, rfl⟩
 · exact .inl x
 · exact .inr (.inl rfl)
 · exact .inr (.inr rfl)
def EvOk (J : Nat → Prop) (N : Nat) (e : Event) : Prop := (∃ a wr, e = ⟨.cell a, wr, false⟩ ∧ ¬ J a.block ∧ a.block < N) ∨ (∃ r, e = ⟨.obj r, false, false⟩ ∧ r < N) ∨ e = ⟨.mark .noRoom, false, true⟩
theorem EvOk.mono {J : Nat → Prop} {N M : Nat} {e : Event} (h : EvOk J N e) (hN : N ≤ M) : EvOk J M e := by
 rcases h with ⟨a, wr, rfl, h1, h2⟩ | ⟨r, rfl, h⟩ | rfl
 · exact .inl ⟨a, wr, rfl, h1, Nat.lt_of_lt_of_le h2 hN⟩
 · exact .inr (.inl ⟨r, rfl, Nat.lt_of_lt_of_le h hN⟩)
 · exact .inr (.inr rfl)
structure After (J : Nat → Prop) (w v w' v' : World) (es es' : Array Event) : Prop where
 rel : Rel J w' v'
 tapeS : v'.tape = v.tape
 tapeP : w'.tape = w.tape
 dr : w'.drawn + v.drawn = w.drawn + v'.drawn
 os : w'.os = w.os
 out : w'.output = w.output
 keep : ∀ b : Nat, J b → w'.heap[b]? = w.heap[b]?
 evs : ∃ new : Array Event, es' = es ++ new ∧ ∀ e ∈ new, EvOk J w'.heap.size e
 size : w.heap.size ≤ w'.heap.size
theorem After.refl {J : Nat → Prop} {w v : World} (h : Rel J w v) (es : Array Event) : After J w v w v es es :=
 ⟨h, rfl, rfl, rfl, rfl, rfl, fun _ _ => rfl, ⟨#[], by simp, by simp⟩, Nat.le_refl _⟩
theorem After.trans {J : Nat → Prop} {w v w₁ v₁ w₂ v₂ : World} {es es₁ es₂ : Array Event} (h : After J w v w₁ v₁ es es₁) (k : After J w₁ v₁ w₂ v₂ es₁ es₂) : After J w v w₂ v₂ es es₂ := by
 obtain ⟨n1, e1, o1⟩ := h.evs
 obtain ⟨n2, e2, o2⟩ := k.evs
 refine ⟨k.rel, k.tapeS.trans h.tapeS, k.tapeP.trans h.tapeP, ?_, k.os.trans h.os, k.out.trans h.out, fun b hb => (k.keep b hb).trans (h.keep b hb), ⟨n1 ++ n2, by rw [e2, e1, Array.append_assoc], ?_⟩, Nat.le_trans h.size k.size⟩
 · have := h.dr; have := k.dr; omega
 · intro e he
   rcases Array.mem_append.1 he with x | x
   · exact (o1 e x).mono k.size
   · exact o2 e x
def calmHalt : Halt → Prop
 | .panic _ | .stuck _ => True
 | .unsupported (.initOrder _) => False
 | .unsupported _ => True
 | _ => False
theorem bind_runT {α β : Type} (P : Program) (x : Sem α) (f : α → Sem β) (w : World) (es : Array Event) :
   (x >>= f).runT P w es = match x.runT P w es with
     | (.ok a w', es') => (f a).runT P w' es'
     | (.halt h w', es') => (.halt h w', es') :=
 Sem.runT_bind' P x f w es
theorem runT_askRoom' (P : Program) (n : Nat) (w : World) (es : Array Event) :
   (askRoom n).runT P w es = (.ok () w, if n > roomBytes then es.push ⟨.mark .noRoom, false, true⟩ else es) := by
 unfold askRoom; split <;> rfl
structure Fol (P S : Program) {α : Type} (s : Sem α) : Prop where
 go : ∀ (J : Nat → Prop) (w v : World) (es₀ es : Array Event) (a : α) (v' : World) (es₀' : Array Event), Rel J w v → s.runT S v es₀ = (.ok a v', es₀') →
   (∀ j q, v.drawn + j < v'.drawn → w.tape (w.drawn + j) q = v.tape (v.drawn + j) q) → ∃ w' es', s.runT P w es = (.ok a w', es') ∧ After J w v w' v' es es'
 mono : ∀ (v : World) (es : Array Event) (a : α) (v' : World) (es' : Array Event), SW v → s.runT S v es = (.ok a v', es') → v.drawn ≤ v'.drawn ∧ SW v' ∧ v'.tape = v.tape ∧ v.heap.size ≤ v'.heap.size
 calm : ∀ (v : World) (es : Array Event) (h : Halt) (v' : World) (es' : Array Event), SW v → s.runT S v es = (.halt h v', es') → calmHalt h
section
variable {P S : Program} {α β : Type}
theorem Fol.pure (a : α) : Fol P S (Sem.pure a) := by
 refine ⟨fun J w v es₀ es a' v' es' hr h _ => ?_, fun v es a' v' es' hs h => ?_, fun v es x v' es' _ h => ?_⟩
 · simp only [Sem.runT, Prod.mk.injEq, Result.ok.injEq] at h
   obtain ⟨⟨rfl, rfl⟩, rfl⟩ := h
   exact ⟨w, es, rfl, .refl hr es⟩
 · simp only [Sem.runT, Prod.mk.injEq, Result.ok.injEq] at h
   obtain ⟨⟨rfl, rfl⟩, rfl⟩ := h
   exact ⟨Nat.le_refl _, hs, rfl, Nat.le_refl _⟩
 · simp [Sem.runT, -Sem.runT_eq] at h
theorem Fol.pure' (a : α) : Fol P S (Pure.pure a : Sem α) := Fol.pure a
theorem Fol.halt {h : Halt} (hc : calmHalt h) : Fol P S (Sem.halt h : Sem α) := by
 refine ⟨fun J w v es₀ es a' v' es' hr h _ => ?_, fun v es a' v' es' hs h => ?_, fun v es x v' es' _ h => ?_⟩
 · simp [Sem.runT, -Sem.runT_eq] at h
 · simp [Sem.runT, -Sem.runT_eq] at h
 · simp only [Sem.runT, Prod.mk.injEq, Result.halt.injEq] at h
   exact h.1.1 ▸ hc
theorem Fol.bind {s : Sem α} {f : α → Sem β} (hs : Fol P S s) (hf : ∀ a, Fol P S (f a)) : Fol P S (s >>= f) := by
 refine ⟨fun J w v es₀ es b v' es' hr h ht => ?_, fun v es b v' es' hsw h => ?_, fun v es x v' es' hsw h => ?_⟩
 all_goals rw [bind_runT] at h
 · cases hx : s.runT S v es₀ with
   | mk r es1 =>
     rw [hx] at h
     cases r with
     | halt y v1 => simp at h
     | ok a v1 =>
       simp only at h
       obtain ⟨m1, sw1, t1, z1⟩ := hs.mono v es₀ a v1 es1 hr.sw hx
       obtain ⟨m2, sw2, t2, z2⟩ := (hf a).mono v1 es1 b v' es' sw1 h
       obtain ⟨w1, es1', r1, A1⟩ := hs.go J w v es₀ es a v1 es1 hr hx (fun j q hj => ht j q (by omega))
       obtain ⟨w2, es2', r2, A2⟩ := (hf a).go J w1 v1 es1 es1' b v' es' A1.rel h (fun j q hj => by
         have := ht (v1.drawn - v.drawn + j) q (by omega)
         have e1 : w.drawn + (v1.drawn - v.drawn + j) = w1.drawn + j := by have := A1.dr; omega
         have e2 : v.drawn + (v1.drawn - v.drawn + j) = v1.drawn + j := by omega
         rw [e1, e2] at this
         rw [A1.tapeP, A1.tapeS]; exact this)
       exact ⟨w2, es2', by rw [bind_runT, r1]; exact r2, A1.trans A2⟩
 · cases hx : s.runT S v es with
   | mk r es1 =>
     rw [hx] at h
     cases r with
     | halt y v1 => simp at h
     | ok a v1 =>
       simp only at h
       obtain ⟨m1, sw1, t1, z1⟩ := hs.mono v es a v1 es1 hsw hx
       obtain ⟨m2, sw2, t2, z2⟩ := (hf a).mono v1 es1 b v' es' sw1 h
       exact ⟨by omega, sw2, t2.trans t1, by omega⟩
 · cases hx : s.runT S v es with
   | mk r es1 =>
     rw [hx] at h
     cases r with
     | halt y v1 =>
       simp only [Prod.mk.injEq, Result.halt.injEq] at h
       obtain ⟨⟨rfl, rfl⟩, rfl⟩ := h
       exact hs.calm v es y v1 es1 hsw hx
     | ok a v1 =>
       simp only at h
       obtain ⟨m1, sw1, t1, z1⟩ := hs.mono v es a v1 es1 hsw hx
       exact (hf a).calm v1 es1 x v' es' sw1 h
theorem seen_weird (p : Program) (w : World) (u : TypeId) (k : Addr) (at_ : Bool) : ∃ e, w.seen p ⟨0, 0, some 0⟩ u k at_ = .error e := by
 unfold World.seen
 simp [bind, Except.bind]
 exact ⟨_, rfl⟩
theorem farLoad_sw {v : World} (h : SW v) (p : Program) (a : Addr) (at_ : Bool) : ∃ x, v.farLoad p a at_ = .error x ∧ calmHalt x := by
 unfold World.farLoad World.noCell
 cases ho : v.heap[a.block]? with
 | none => exact ⟨_, rfl, trivial⟩
 | some o =>
   rcases h _ _ ho with (⟨c, t, fr, rfl⟩ | ⟨b, l, rfl⟩ | rfl) | rfl | rfl
   · exact ⟨_, rfl, trivial⟩
   · exact ⟨_, rfl, trivial⟩
   · exact ⟨_, rfl, trivial⟩
   · exact ⟨_, rfl, trivial⟩
   · obtain ⟨e, he⟩ := seen_weird p v 0 a at_
     simp only [weird]
     have : v.viewLoad p ⟨0, 0, some 0⟩ 0 a at_ = .error e := by
       unfold World.viewLoad
       rw [he]; rfl
     rw [this]
     exact ⟨_, rfl, trivial⟩
theorem farStore_sw {v : World} (h : SW v) (S : Program) (a : Addr) (x : Value) (at_ : Bool) : ∃ y, v.farStore S a x at_ = .error y ∧ calmHalt y := by
 unfold World.farStore World.noCell
 cases ho : v.heap[a.block]? with
 | none => exact ⟨_, rfl, trivial⟩
 | some o =>
   rcases h _ _ ho with (⟨c, t, fr, rfl⟩ | ⟨b, l, rfl⟩ | rfl) | rfl | rfl
   · exact ⟨_, rfl, trivial⟩
   · exact ⟨_, rfl, trivial⟩
   · exact ⟨_, rfl, trivial⟩
   · exact ⟨_, rfl, trivial⟩
   · obtain ⟨e, he⟩ := seen_weird S v 0 a at_
     simp only [weird]
     have : ∃ e', v.viewStore S ⟨0, 0, some 0⟩ 0 a x at_ = .error e' := by
       unfold World.viewStore
       rw [he]
       by_cases ht : (!tight S S.depth 0) = true
       · simp only [ht]; exact ⟨_, rfl⟩
       · simp only [ht]; exact ⟨_, rfl⟩
     obtain ⟨e', he'⟩ := this
     rw [he']
     exact ⟨_, rfl, trivial⟩
theorem Rel.cell {J : Nat → Prop} {w v : World} (h : Rel J w v) {a : Addr} {x : Value} (hc : v.cell? a = some x) : w.cell? a = some x ∧ ¬ J a.block ∧ a.block < w.heap.size ∧ w.frozen? a = v.frozen? a := by
 unfold World.cell? at hc
 cases ho : v.heap[a.block]? with
 | none => rw [ho] at hc; cases hc
 | some o =>
   have hlt : a.block < w.heap.size := by rw [← h.size]; exact (Array.getElem?_eq_some_iff.1 ho).1
   rcases h.blk _ _ ho with ⟨hj, hw, ⟨c, t, fr, rfl⟩ | ⟨b, l, rfl⟩ | rfl⟩ | ⟨_, rfl, _⟩ | ⟨_, rfl⟩
   · rw [ho] at hc
     exact ⟨by unfold World.cell?; rw [hw]; exact hc, hj, hlt, by unfold World.frozen?; rw [hw, ho]⟩
   · rw [ho] at hc; simp at hc
   · rw [ho] at hc; simp [husk] at hc
   · rw [ho] at hc; simp [husk] at hc
   · rw [ho] at hc; simp [weird] at hc
theorem Fol.load (a : Addr) : Fol P S (Go.load a) := by
 refine ⟨fun J w v es₀ es x v' es' hr h _ => ?_, fun v es x v' es' hs h => ?_, fun v es x v' es' hs h => ?_⟩
 all_goals simp only [Go.load, Sem.runT] at h
 · cases hc : v.cell? a with
   | none =>
     obtain ⟨y, hy, _⟩ := farLoad_sw hr.sw S a (Mode.plain == .atomic)
     simp [hc, hy, -Sem.runT_eq] at h
   | some z =>
     simp only [hc, Prod.mk.injEq, Result.ok.injEq] at h
     obtain ⟨⟨rfl, rfl⟩, rfl⟩ := h
     obtain ⟨h1, h2, h3, _⟩ := hr.cell hc
     refine ⟨w, es.push ⟨.cell a, false, false⟩, by simp [Go.load, Sem.runT, h1, -Sem.runT_eq]; rfl, ⟨hr, rfl, rfl, rfl, rfl, rfl, fun _ _ => rfl, ⟨#[⟨.cell a, false, false⟩], by simp, ?_⟩, Nat.le_refl _⟩⟩
     intro e he
     simp at he
     exact .inl ⟨a, false, he, h2, h3⟩
 · cases hc : v.cell? a with
   | none =>
     obtain ⟨y, hy, _⟩ := farLoad_sw hs S a (Mode.plain == .atomic)
     simp [hc, hy, -Sem.runT_eq] at h
   | some z =>
     simp only [hc, Prod.mk.injEq, Result.ok.injEq] at h
     obtain ⟨⟨rfl, rfl⟩, rfl⟩ := h
     exact ⟨Nat.le_refl _, hs, rfl, Nat.le_refl _⟩
 · cases hc : v.cell? a with
   | none =>
     obtain ⟨y, hy, hcalm⟩ := farLoad_sw hs S a (Mode.plain == .atomic)
     simp only [hc, hy, Prod.mk.injEq, Result.halt.injEq] at h
     exact h.1.1 ▸ hcalm
   | some z => simp [hc, -Sem.runT_eq] at h
theorem setCell_heap (w : World) (a : Addr) (x : Value) (b : Nat) :
   (w.setCell a x).heap[b]? = if b = a.block then (w.heap[b]?).map (fun | .cells c e f => .cells (if a.spot.isSome then c else c.setIfInBounds a.off x) e f | o => o) else w.heap[b]? := by
 unfold World.setCell
 simp only [Array.getElem?_modify]
 by_cases h : a.block = b
 · subst h
   rw [if_pos rfl, if_pos rfl]
   cases w.heap[a.block]? with
   | none => rfl
   | some o => cases o <;> rfl
 · rw [if_neg h, if_neg (Ne.symm h)]
theorem Rel.setCell {J : Nat → Prop} {w v : World} (h : Rel J w v) {a : Addr} (x : Value) (hj : ¬ J a.block) : Rel J (w.setCell a x) (v.setCell a x) := by
 refine ⟨?_, fun b hb => ?_, fun b o ho => ?_⟩
 · simp [World.setCell, h.size]
 · have := h.low b hb
   simpa [World.setCell] using this
 · rw [setCell_heap] at ho
   rw [setCell_heap]
   by_cases hb : b = a.block
   · subst hb
     rw [if_pos rfl] at ho
     rw [if_pos rfl]
     obtain ⟨o', ho', rfl⟩ := Option.map_eq_some_iff.1 ho
     rcases h.blk _ _ ho' with ⟨_, hw, ⟨c, t, fr, rfl⟩ | ⟨b, l, rfl⟩ | rfl⟩ | ⟨hx, _⟩ | ⟨hx, _⟩
     · exact .inl ⟨hj, by rw [hw]; rfl, .inl ⟨_, _, _, rfl⟩⟩
     · exact .inl ⟨hj, by rw [hw]; rfl, .inr (.inl ⟨_, _, rfl⟩)⟩
     · exact .inl ⟨hj, by rw [hw]; rfl, .inr (.inr rfl)⟩
     · exact absurd hx hj
     · exact absurd hx hj
   · rw [if_neg hb] at ho ⊢
     exact h.blk b o ho
theorem SW.setCell {v : World} (h : SW v) (a : Addr) (x : Value) : SW (v.setCell a x) := by
 intro b o ho
 rw [setCell_heap] at ho
 by_cases hb : b = a.block
 · rw [if_pos hb] at ho
   obtain ⟨o', ho', rfl⟩ := Option.map_eq_some_iff.1 ho
   rcases h _ _ ho' with (⟨c, t, fr, rfl⟩ | ⟨b, l, rfl⟩ | rfl) | rfl | rfl
   · exact .inl (.inl ⟨_, _, _, rfl⟩)
   · exact .inl (.inr (.inl ⟨_, _, rfl⟩))
   · exact .inl (.inr (.inr rfl))
   · exact .inr (.inl rfl)
   · exact .inr (.inr rfl)
 · rw [if_neg hb] at ho
   exact h _ _ ho
def isRow : Value → Bool
 | .agg _ | .tuple _ => true
 | _ => false
theorem Fol.store (a : Addr) (x : Value) : Fol P S (Go.store a x) := by
 have key : ∀ (p : Program) (v : World) (es : Array Event), SW v → (Go.store a x).runT p v es =
     (if isRow x = true then (.halt (.stuck "store: not the value of one cell") v, es) else
     match v.cell? a with
     | some _ => if v.frozen? a then (.halt (.unsupported (.unsafePointer "a write to bytes that a string shares")) v, es) else (.ok () (v.setCell a x), es.push ⟨.cell a, true, false⟩)
     | none => (.halt ((match v.farStore p a x false with | .ok _ => Halt.stuck "" | .error h => h)) v, es)) := by
   intro p v es hs
   unfold Go.store
   have hm : (Mode.plain == Mode.atomic) = false := rfl
   cases hc : v.cell? a with
   | none =>
     obtain ⟨y, hy, _⟩ := farStore_sw hs p a x false
     cases x <;> simp only [Sem.runT, isRow, Bool.false_eq_true, if_false, if_true, hc, hm, hy]
   | some z =>
     cases x <;> simp only [Sem.runT, isRow, Bool.false_eq_true, if_false, if_true, hc, hm]
 refine ⟨fun J w v es₀ es y v' es' hr h _ => ?_, fun v es y v' es' hs h => ?_, fun v es y v' es' hs h => ?_⟩
 · rw [key S v es₀ hr.sw] at h
   by_cases hx : isRow x = true
   · rw [if_pos hx] at h; simp at h
   · rw [if_neg hx] at h
     cases hc : v.cell? a with
     | none => simp [hc] at h
     | some z =>
       simp only [hc] at h
       by_cases hf : v.frozen? a = true
       · rw [if_pos hf] at h; simp at h
       · rw [if_neg hf] at h
         simp only [Prod.mk.injEq, Result.ok.injEq] at h
         obtain ⟨⟨_, rfl⟩, rfl⟩ := h
         obtain ⟨h1, h2, h3, h4⟩ := hr.cell hc
         refine ⟨w.setCell a x, es.push ⟨.cell a, true, false⟩, ?_, ⟨hr.setCell x h2, rfl, rfl, rfl, rfl, rfl, fun b hb => ?_, ⟨#[⟨.cell a, true, false⟩], by simp, ?_⟩, by simp [World.setCell]⟩⟩
         · unfold Go.store
           cases x <;> simp [isRow] at hx <;> (simp only [Sem.runT, h1, h4]; rw [if_neg hf]; rfl)
         · rw [setCell_heap, if_neg (fun e : b = a.block => h2 (e ▸ hb))]
         · intro e he
           simp at he
           exact .inl ⟨a, true, he, h2, by simpa [World.setCell] using h3⟩
 · rw [key S v es hs] at h
   by_cases hx : isRow x = true
   · rw [if_pos hx] at h; simp at h
   · rw [if_neg hx] at h
     cases hc : v.cell? a with
     | none => simp [hc] at h
     | some z =>
       simp only [hc] at h
       by_cases hf : v.frozen? a = true
       · rw [if_pos hf] at h; simp at h
       · rw [if_neg hf] at h
         simp only [Prod.mk.injEq, Result.ok.injEq] at h
         obtain ⟨⟨_, rfl⟩, rfl⟩ := h
         exact ⟨Nat.le_refl _, hs.setCell a x, rfl, by simp [World.setCell]⟩
 · rw [key S v es hs] at h
   by_cases hx : isRow x = true
   · rw [if_pos hx] at h
     simp only [Prod.mk.injEq, Result.halt.injEq] at h
     exact h.1.1 ▸ trivial
   · rw [if_neg hx] at h
     cases hc : v.cell? a with
     | none =>
       simp only [hc, Prod.mk.injEq, Result.halt.injEq] at h
       obtain ⟨y', hy, hcalm⟩ := farStore_sw hs S a x false
       rw [hy] at h
       exact h.1.1 ▸ hcalm
     | some z =>
       simp only [hc] at h
       by_cases hf : v.frozen? a = true
       · rw [if_pos hf] at h
         simp only [Prod.mk.injEq, Result.halt.injEq] at h
         exact h.1.1 ▸ trivial
       · rw [if_neg hf] at h; simp at h
theorem Rel.new {J : Nat → Prop} {w v : World} (h : Rel J w v) {o : Obj} (hp : Plain o) : Rel J { w with heap := w.heap.push o } { v with heap := v.heap.push o } := by
 refine ⟨by simp [h.size], fun b hb => by have := h.low b hb; simp; omega, fun b o' ho => ?_⟩
 simp only [Array.getElem?_push] at ho ⊢
 rw [h.size] at ho
 by_cases hb : b = w.heap.size
 · subst hb
   simp only [if_true, Option.some.injEq] at ho ⊢
   subst ho
   exact .inl ⟨fun hj => Nat.lt_irrefl _ (h.low _ hj), rfl, hp⟩
 · rw [if_neg hb] at ho
   rw [if_neg hb]
   exact h.blk b o' ho
theorem Fol.newPlain {o : Obj} (hp : Plain o) : Fol P S (Go.newObj o) := by
 refine ⟨fun J w v es₀ es x v' es' hr h _ => ?_, fun v es x v' es' hs h => ?_, fun v es x v' es' hs h => ?_⟩
 all_goals simp only [Go.newObj, Sem.runT, Prod.mk.injEq, Result.ok.injEq] at h
 · obtain ⟨⟨rfl, rfl⟩, rfl⟩ := h
   refine ⟨_, es, by simp only [Go.newObj, Sem.runT, hr.size], ⟨hr.new hp, rfl, rfl, rfl, rfl, rfl, fun b hb => ?_, ⟨#[], by simp, by simp⟩, by simp⟩⟩
   have := hr.low b hb
   simp [Array.getElem?_push, Nat.ne_of_lt this]
 · obtain ⟨⟨rfl, rfl⟩, rfl⟩ := h
   refine ⟨Nat.le_refl _, fun b o' ho => ?_, rfl, by simp⟩
   simp only [Array.getElem?_push] at ho
   split at ho
   · simp only [Option.some.injEq] at ho
     exact .inl (ho ▸ hp)
   · exact hs _ _ ho
 · simp at h
theorem Fol.newCells (c : Array Value) (t : TypeId) (fr : Nat × Nat) : Fol P S (Go.newObj (.cells c t fr)) := Fol.newPlain (.inl ⟨c, t, fr, rfl⟩)
theorem Fol.choose (q : Question) : Fol P S (Go.choose q) := by
 refine ⟨fun J w v es₀ es x v' es' hr h ht => ?_, fun v es x v' es' hs h => ?_, fun v es x v' es' hs h => ?_⟩
 all_goals simp only [Go.choose, Sem.runT] at h
 all_goals by_cases hq : q.forced = true
 all_goals first | rw [if_pos hq] at h | rw [if_neg hq] at h
 all_goals simp only [Prod.mk.injEq, Result.ok.injEq] at h
 · obtain ⟨⟨rfl, rfl⟩, rfl⟩ := h
   exact ⟨w, es, by simp only [Go.choose, Sem.runT]; rw [if_pos hq], .refl hr es⟩
 · obtain ⟨⟨rfl, rfl⟩, rfl⟩ := h
   have := ht 0 q (by simp)
   simp only [Nat.add_zero] at this
   refine ⟨{ w with drawn := w.drawn + 1 }, es, by simp only [Go.choose, Sem.runT]; rw [if_neg hq, this], ⟨⟨hr.size, hr.low, hr.blk⟩, rfl, rfl, ?_, rfl, rfl, fun _ _ => rfl, ⟨#[], by simp, by simp⟩, Nat.le_refl _⟩⟩
   show w.drawn + 1 + v.drawn = w.drawn + (v.drawn + 1)
   omega
 · obtain ⟨⟨rfl, rfl⟩, rfl⟩ := h
   exact ⟨Nat.le_refl _, hs, rfl, Nat.le_refl _⟩
 · obtain ⟨⟨rfl, rfl⟩, rfl⟩ := h
   exact ⟨Nat.le_succ _, hs, rfl, Nat.le_refl _⟩
 · simp at h
 · simp at h
theorem Fol.program {k : Program → Sem α} (he : k P = k S) (hk : Fol P S (k S)) : Fol P S (Sem.program k) := by
 refine ⟨fun J w v es₀ es x v' es' hr h ht => ?_, fun v es x v' es' hs h => ?_, fun v es x v' es' hs h => ?_⟩
 all_goals simp only [Sem.runT] at h
 · obtain ⟨w', es'', h1, h2⟩ := hk.go J w v es₀ es x v' es' hr h ht
   exact ⟨w', es'', by simp only [Sem.runT, he]; exact h1, h2⟩
 · exact hk.mono v es x v' es' hs h
 · exact hk.calm v es x v' es' hs h
theorem Fol.askRoom (n : Nat) : Fol P S (Go.askRoom n) := by
 refine ⟨fun J w v es₀ es x v' es' hr h ht => ?_, fun v es x v' es' hs h => ?_, fun v es x v' es' hs h => ?_⟩
 all_goals rw [runT_askRoom'] at h
 all_goals simp only [Prod.mk.injEq, Result.ok.injEq] at h
 · obtain ⟨⟨_, rfl⟩, rfl⟩ := h
   refine ⟨w, _, by rw [runT_askRoom'], ⟨hr, rfl, rfl, rfl, rfl, rfl, fun _ _ => rfl, ?_, Nat.le_refl _⟩⟩
   split
   · exact ⟨#[⟨.mark .noRoom, false, true⟩], by simp, fun e he => .inr (.inr (by simpa using he))⟩
   · exact ⟨#[], by simp, by simp⟩
 · obtain ⟨⟨_, rfl⟩, rfl⟩ := h
   exact ⟨Nat.le_refl _, hs, rfl, Nat.le_refl _⟩
 · simp at h
end
end Go.Proofs.Ytcoppnbjpncdcaa.Sim
end
section
set_option linter.unusedVariables false
set_option linter.unusedSimpArgs false
namespace Go.Proofs.Ytcoppnbjpncdcaa.Q
open Go Go.Conc
open Go.ConcR (KK WgAt wgBlock stA smA rd wr mk again_blocked deafBehind_cons deafBehind_one)
open Go.ConcM (OsLater)
open Go.ConcN (sumTo upd sumTo_upd upd_ne upd_same le_sumTo sumTo_congr RelBy)
structure Eff (C : Cfg) (me : Nat → Prop) (X : Nat → Prop) (w w' : World) : Prop where
 size : w.heap.size ≤ w'.heap.size
 blk : ∀ b : Nat, b < w.heap.size → ¬ X b → w'.heap[b]? = w.heap[b]?
 cells : ∀ i a, ¬ me i → OwnC C i a → w'.cell? a = w.cell? a
 os : OsLater w.os w'.os
 out : w'.output = w.output
 shp : ∀ b : Nat, ¬ isG C b → (b < w.heap.size → Cl w b) → b < w'.heap.size → Cl w' b
section
variable {C : Cfg} {me X : Nat → Prop} {w w' : World}
theorem Eff.ry (h : Eff C me X w w') {me' Kb : Nat → Prop} (h1 : ∀ i, me' i → ¬ me i) (h2 : ∀ b, Kb b → ¬ X b) (h3 : Live C w') : Ry C me' Kb w w' :=
 ⟨h.size, fun b hb hl => h.blk b hl (h2 b hb), fun _ => h3, fun i a hi ha => h.cells i a (h1 i hi) ha⟩
theorem cl_same {b : Nat} (h : w'.heap.size = w.heap.size) (e : w'.heap[b]? = w.heap[b]?) (h1 : b < w.heap.size → Cl w b) (h2 : b < w'.heap.size) : Cl w' b := by
 obtain ⟨c, t, hc⟩ := h1 (h ▸ h2)
 exact ⟨c, t, e.trans hc⟩
theorem cl_set {a : Addr} {v : Value} {b : Nat} (h : Cl w b) : Cl (w.setCell a v) b := by
 obtain ⟨c, t, hc⟩ := h
 by_cases e : b = a.block
 · subst e
   refine ⟨if a.spot.isSome then c else c.setIfInBounds a.off v, t, ?_⟩
   rw [Sim.setCell_heap, if_pos rfl, hc]
   rfl
 · exact ⟨c, t, (heap_set w a v b e).trans hc⟩
theorem Eff.refl (w : World) : Eff C me X w w := ⟨Nat.le_refl _, fun _ _ _ => rfl, fun _ _ _ _ => rfl, .refl _, rfl, fun b _ h1 h2 => h1 h2⟩
theorem Eff.push (w : World) (ob : Obj) (hob : ∃ c t, ob = Obj.cells c t) (hg : C.G < w.heap.size) (hh : C.H < w.heap.size) : Eff C me X w { w with heap := w.heap.push ob } := by
 have key : ∀ b : Nat, b < w.heap.size → (w.heap.push ob)[b]? = w.heap[b]? := fun b hb => by rw [Array.getElem?_push, if_neg (by omega)]
 exact ⟨by simp, fun b hb _ => key b hb, fun i a _ ha => cell_of_block' (key _ (by rcases ha.blk with e | e <;> rw [e] <;> assumption)), .refl _, rfl, fun b _ h1 h2 => by
   by_cases hb : b < w.heap.size
   · obtain ⟨c, t, hc⟩ := h1 hb
     exact ⟨c, t, (key b hb).trans hc⟩
   · obtain ⟨c, t, rfl⟩ := hob
     have : b = w.heap.size := by simp at h2; omega
     subst this
     exact ⟨c, t, by simp⟩⟩
theorem Eff.lock (e : LockEff C w w') (A : C.Apart) : Eff C me (isG C) w w' :=
 ⟨Nat.le_of_eq e.size.symm, fun b _ hb => e.block b fun x => hb (.inl x), fun i a _ ha => cell_of_block' (e.block _ (ha.blk.elim (fun x => x ▸ Ne.symm A.fg) fun x => x ▸ Ne.symm A.fh)), e.os, e.out, fun b hb h1 h2 => cl_same e.size (e.block b fun x => hb (.inl x)) h1 h2⟩
theorem Eff.wg (w : World) (off : Nat) (v : Value) (A : C.Apart) : Eff C me (isG C) w (w.setCell ⟨C.Wg, off, none⟩ v) :=
 ⟨by simp [World.setCell], fun b _ hb => heap_set w _ v b fun x => hb (.inr (.inr (.inr x))), fun i a _ ha => cell_of_block' (heap_set w _ v _ (ha.blk.elim (fun x => x ▸ A.gw) fun x => x ▸ A.hw)), .refl _, rfl, fun b hb h1 h2 => cl_same (by simp [World.setCell]) (heap_set w _ v b fun x => hb (.inr (.inr (.inr x)))) h1 h2⟩
theorem Eff.wr {i : Nat} (h : Wr C i w w') : Eff C (· = i) (isG C) w w' :=
 ⟨Nat.le_of_eq h.size.symm, fun b _ hb => h.block b (fun x => hb (.inr (.inl x))) (fun x => hb (.inr (.inr (.inl x)))), fun i' a hi ha => h.cells i' a hi ha, h.os ▸ .refl _, h.out, fun b hb h1 h2 => cl_same h.size (h.block b (fun x => hb (.inr (.inl x))) (fun x => hb (.inr (.inr (.inl x))))) h1 h2⟩
theorem Eff.mn {Pv : Nat → Prop} (h : Mn Pv w w') (hp : ∀ b, isG C b → ¬ Pv b) : Eff C me Pv w w' :=
 ⟨Nat.le_of_eq h.size.symm, fun b _ hb => h.block b hb, fun i a _ ha => cell_of_block' (h.block _ (hp _ (ha.blk.elim (fun x => .inr (.inl x)) fun x => .inr (.inr (.inl x))))), h.os ▸ .refl _, h.out, fun b _ h1 h2 => h.shp b (h1 (h.size ▸ h2))⟩
end
section
variable {C : Cfg} {P : Program} {vals : Nat → Value × Value × Value} {Kr K0 : Nat → Prop} {Anch F0 : Goroutine → World → Prop}
theorem ryTrans {me Kb : Nat → Prop} : ∀ a b c, Ry C me Kb a b → Ry C me Kb b c → Ry C me Kb a c := fun _ _ _ h k => h.trans k
theorem WS.rely {i : Nat} {d : WD} {dd : Nat} {g : Goroutine} {w w' : World} (h : WS C P vals i d dd g w) (hr : Ry C (· = i) d.kb w w') : WS C P vals i d dd g w' := by
 obtain ⟨p, f, kb⟩ := d
 cases p
 case mu T => exact ⟨h.1, h.2.1, Goes.rely ryTrans h.2.2 hr⟩
 case bk T => obtain ⟨h0, h1, g0, e, h2, h3, h4⟩ := h; exact ⟨h0, h1, g0, e, h2, h3, fun w₁ h₁ => h4 w₁ (hr.trans h₁)⟩
 case q => exact h
 all_goals exact ⟨h.1, Goes.rely ryTrans h.2 hr⟩
theorem WMu.running {Kb : Nat → Prop} {i : Nat} {T : Th} {g : Goroutine} {w : World} (h : WMu C P vals Kb i T g w) : g.status = .running := (h 1).1
theorem WS.status {i : Nat} {d : WD} {dd : Nat} {g : Goroutine} {w : World} (h : WS C P vals i d dd g w) : (g.status = .running ∨ (g.status = .finished ∧ d.p = .q) ∨ (g.status = .blocked ∧ ∃ T, d.p = .bk T)) := by
 unfold WS at h
 split at h <;> rename_i hp
 · exact .inl (Goes.running (fun _ _ x => x.1) w (Ry.refl w) h.2)
 · exact .inl (Goes.running (fun _ _ x => WMu.running x) w (Ry.refl w) h.2.2)
 · obtain ⟨h0, h1, g0, e, h2, h3, h4⟩ := h; exact .inr (.inr ⟨by rw [e], _, hp⟩)
 · exact .inl (Goes.running (fun _ _ x => x.1) w (Ry.refl w) h.2)
 · exact .inl (Goes.running (fun _ _ x => x.1) w (Ry.refl w) h.2)
 · exact .inl (Goes.running (fun _ _ x => x.1) w (Ry.refl w) h.2)
 · exact .inl (Goes.running (fun _ _ x => x.1) w (Ry.refl w) h.2)
 · exact .inl (Goes.running (fun _ _ x => x.1) w (Ry.refl w) h.2)
 · exact .inl (Goes.running (fun _ _ x => x.1) w (Ry.refl w) h.2)
 · exact h.status.elim .inl fun x => .inr (.inl ⟨x, hp⟩)
def wakes (P : Program) (x x' : Goroutine) : Bool := mayWake P x && x'.status != .blocked && x'.status != .waiting
theorem woken_eq (P : Program) (x x' : Goroutine) (w' : World) (o : Goroutine) : woken P x x' w' o = if wakes P x x' then o.again w' else o := by
 unfold woken wakes
 rfl
theorem WS.woken {i : Nat} {d : WD} {dd : Nat} {g : Goroutine} {w : World} (h : WS C P vals i d dd g w) (x x' : Goroutine) (w' : World) : WS C P vals i (wake (wakes P x x') d) dd (woken P x x' w' g) w := by
 rw [woken_eq]
 cases wakes P x x' with
 | false => exact h
 | true =>
   have hs := h.status
   obtain ⟨p, f, kb⟩ := d
   cases p with
   | bk T =>
     obtain ⟨h0, h1, g0, e, h2, h3, h4⟩ := h
     subst e
     show WS C P vals i { p := .mu T, f := f, kb := kb } dd _ w
     rw [if_pos rfl, again_blocked h2 h3]
     exact ⟨h0, by rw [h1]; simp, Goes.stop h4⟩
   | _ =>
     rcases hs with hs | ⟨hs, _⟩ | ⟨_, T, hT⟩
     · rw [if_pos rfl, again_running _ (.inl hs)]; exact h
     · rw [if_pos rfl, again_running _ (.inr hs)]; exact h
     · simp at hT
theorem wake_p (b : Bool) (d : WD) : (wake b d).p = d.p ∨ ∃ T, d.p = .bk T ∧ (wake b d).p = .mu T ∧ b = true := by
 unfold wake
 cases b with
 | false => exact .inl rfl
 | true =>
   cases hp : d.p with
   | bk T => exact .inr ⟨T, rfl, by simp [], rfl⟩
   | _ => exact .inl (by simp [hp])
theorem wake_f (b : Bool) (d : WD) : (wake b d).f = d.f := by unfold wake; split <;> first | rfl | (split <;> rfl)
theorem wake_kb (b : Bool) (d : WD) : (wake b d).kb = d.kb := by unfold wake; split <;> first | rfl | (split <;> rfl)
theorem wake_same {α : Type} (φ : Wp → α) (hφ : ∀ T, φ (.bk T) = φ (.mu T)) (b : Bool) (d : WD) : φ (wake b d).p = φ d.p := by
 rcases wake_p b d with e | ⟨T, e1, e2, _⟩
 · rw [e]
 · rw [e1, e2, hφ]
theorem MS.rely {tag : Mp} {j f dd : Nat} {g : Goroutine} {w w' : World} (h : MS C P vals Kr K0 Anch F0 tag j f dd g w) (hr : Ry C (fun _ => False) (fun b => Kr b ∨ tag.pv b) w w') : MS C P vals Kr K0 Anch F0 tag j f dd g w' := by
 obtain ⟨h1, h2, h3⟩ := h
 refine ⟨h1, h2, ?_⟩
 cases tag
 case b3 =>
   obtain ⟨g0, e, q1, q2, q3⟩ := h3
   exact ⟨g0, e, q1, q2, fun w₁ h₁ => q3 w₁ (hr.trans h₁)⟩
 all_goals exact Goes.rely ryTrans h3 hr
theorem MS.status {tag : Mp} {j f dd : Nat} {g : Goroutine} {w : World} (h : MS C P vals Kr K0 Anch F0 tag j f dd g w) : (g.status = .running ∧ tag ≠ .b3) ∨ (g.status = .blocked ∧ tag = .b3) := by
 obtain ⟨h1, h2, h3⟩ := h
 cases tag
 case b3 =>
   obtain ⟨g0, e, q1, q2, q3⟩ := h3
   exact .inr ⟨by rw [e], rfl⟩
 all_goals exact .inl ⟨Goes.running (fun _ _ x => x.1) w (Ry.refl w) h3, by simp⟩
theorem wakeM_same {α : Type} (φ : Mp → α) (hφ : φ .b3 = φ .w3) (b : Bool) (t : Mp) : φ (wakeM b t) = φ t := by
 unfold wakeM
 cases b with
 | false => rfl
 | true => cases t <;> first | rfl | exact hφ.symm
theorem MS.woken {tag : Mp} {j f dd : Nat} {g : Goroutine} {w : World} (h : MS C P vals Kr K0 Anch F0 tag j f dd g w) (x x' : Goroutine) (w' : World) : MS C P vals Kr K0 Anch F0 (wakeM (wakes P x x') tag) j f dd (woken P x x' w' g) w := by
 rw [woken_eq]
 cases wakes P x x' with
 | false => exact h
 | true =>
   have hs := h.status
   cases tag
   case b3 =>
     obtain ⟨h1, h2, g0, e, q1, q2, q3⟩ := h
     subst e
     rw [if_pos rfl, again_blocked q1 q2]
     exact ⟨h1, h2, Goes.stop q3⟩
   all_goals
     rw [if_pos rfl, again_running _ (.inl (hs.resolve_right (by simp)).1)]
     exact h
theorem WInv.wakeM {j : Nat} {D : Nat → Wp} {tag : Mp} {v wt sm : Nat} (h : WInv j D tag v wt sm) (b : Bool) : WInv j D (wakeM b tag) v wt sm := by
 cases b with
 | false => exact h
 | true =>
   cases tag
   case b3 => exact ⟨fun x => x.elim, h.w3, fun x => x.elim, fun vs e => by simp [Q.wakeM] at e, fun e => by simp [Q.wakeM] at e⟩
   all_goals exact h
end
end Go.Proofs.Ytcoppnbjpncdcaa.Q
end
section
set_option linter.unusedVariables false
set_option linter.unusedSimpArgs false
namespace Go.Proofs.Ytcoppnbjpncdcaa.Q
open Go Go.Conc
open Go.ConcR (KK WgAt wgBlock stA smA rd wr mk)
open Go.ConcM (OsLater)
open Go.ConcN (sumTo upd sumTo_upd upd_ne upd_same le_sumTo sumTo_congr RelBy)
theorem touch_low {act : MemAct} {B : Nat} {x : Touch} {a : Addr} (h : act.low B) (hx : act.touch? = some x) (e : x.loc = .cell a) : a.block < B := by
 cases act with
 | access ev =>
   obtain ⟨loc, wr, sy⟩ := ev
   simp only [MemAct.touch?, Option.some.injEq] at hx
   subst hx
   simp only at e
   subst e
   exact h
 | mark m =>
   cases m <;> simp only [MemAct.touch?, Option.some.injEq, reduceCtorEq] at hx <;> (subst hx; simp only [Loc.cell.injEq] at e; subst e; exact h)
 | _ => simp only [MemAct.touch?, reduceCtorEq] at hx
def EvWk (C : Cfg) (kb : Nat → Prop) (i : Nat) (N : Nat) (e : Event) : Prop :=
 (∀ x, (MemAct.ofEvent e).touch? = some x → (Shr C x.loc ∧ x.kind ≠ .plain ∧ x.kind ≠ .said) ∨ ((∃ a, x.loc = .cell a ∧ OwnC C i a) ∧ x.kind ≠ .atomic) ∨ ((∃ a, x.loc = .cell a ∧ (kb a.block ∨ (a.block = C.F ∧ 2 ≤ a.off))) ∧ x.write = false ∧ x.kind ≠ .atomic)) ∧
 e.loc ≠ .mark (.release (stA C.Wg)) ∧ (MemAct.ofEvent e).low N
theorem loc_of_act {e : Event} {m : Mark} (h : MemAct.ofEvent e = .mark m) : e.loc = .mark m := Go.ConcR.loc_of_ofEvent h
section
variable {C : Cfg} {P : Program} {vals : Nat → Value × Value × Value} {Kr K0 : Nat → Prop} {Anch F0 : Goroutine → World → Prop} {E : Env}
theorem fam_apart (O : EnvOk C P Kr K0 Anch F0 E) {kb : Nat → Nat → Prop} (hk : ∀ i b, kb i b → ¬ isG C b ∧ ¬ E.J b) : (fam C (fun l => ∃ a : Addr, l = .cell a ∧ E.J a.block) E.j0 kb).Apart := by
 have A := O.apart
 have nsh : ∀ a : Addr, Shr C (.cell a) → a.block = C.Wg ∨ (a.block = C.F ∧ a.off < 2) := by
   intro a h
   rcases h with h | h | h | h <;> simp only [Loc.cell.injEq] at h <;> subst h
   · exact .inr ⟨rfl, by show (0 : Nat) < 2; omega⟩
   · exact .inr ⟨rfl, by show (1 : Nat) < 2; omega⟩
   · exact .inl rfl
   · exact .inl rfl
 have ob : ∀ {i : Nat} {a : Addr}, OwnC C i a → a.block = C.G ∨ a.block = C.H := fun h => h.blk
 refine ⟨fun k k' l h h' => ?_, fun k k' l h h' => ?_, fun k l h => ?_, fun k l h => ?_⟩
 · obtain ⟨i, a, rfl, rfl, ho⟩ := h
   obtain ⟨i', a', rfl, e, ho'⟩ := h'
   simp only [Loc.cell.injEq] at e
   subst e
   have hgh := A.gh
   rcases ho.2 with ⟨b1, o1⟩ | ⟨b1, o1⟩ <;> rcases ho'.2 with ⟨b2, o2⟩ | ⟨b2, o2⟩
   · omega
   · exact absurd (b1.symm.trans b2) hgh
   · exact absurd (b2.symm.trans b1) hgh
   · omega
 · obtain ⟨i, a, rfl, rfl, ho⟩ := h
   obtain ⟨i', a', rfl, e, ho'⟩ := h'
   simp only [Loc.cell.injEq] at e
   subst e
   rcases ho' with hb | ⟨hb, _⟩
   · exact (hk _ _ hb).1 (ho.blk.elim (fun x => .inr (.inl x)) fun x => .inr (.inr (.inl x)))
   · rcases ho.blk with x | x
     · exact A.fg (hb.symm.trans x)
     · exact A.fh (hb.symm.trans x)
 · obtain ⟨i, a, rfl, rfl, ho⟩ := h
   refine ⟨fun hs => ?_, fun ⟨b, e, hj⟩ => ?_, rfl⟩
   · rcases nsh a hs with h | ⟨h, _⟩ <;> rcases ho.blk with x | x
     · exact A.gw (x.symm.trans h)
     · exact A.hw (x.symm.trans h)
     · exact A.fg (h.symm.trans x)
     · exact A.fh (h.symm.trans x)
   · simp only [Loc.cell.injEq] at e
     subst e
     exact (O.new _ (ho.blk.elim (fun x => .inr (.inl x)) fun x => .inr (.inr (.inl x)))).2 hj
 · obtain ⟨i, a, rfl, rfl, ho⟩ := h
   refine ⟨fun hs => ?_, fun ⟨b, e, hj⟩ => ?_, rfl⟩
   · rcases ho with hb | ⟨hb, h2⟩
     · exact (hk _ _ hb).1 ((nsh a hs).elim (fun x => .inr (.inr (.inr x))) fun x => .inl x.1)
     · rcases nsh a hs with h | ⟨_, h⟩
       · exact A.fw (hb.symm.trans h)
       · omega
   · simp only [Loc.cell.injEq] at e
     subst e
     rcases ho with hb | ⟨hb, h2⟩
     · exact (hk _ _ hb).2 hj
     · exact (O.new _ (.inl hb)).2 hj
theorem fam_shO (O : EnvOk C P Kr K0 Anch F0 E) {kb : Nat → Nat → Prop} : ∀ l, (fam C (fun l => ∃ a : Addr, l = .cell a ∧ E.J a.block) E.j0 kb).Sh l → ¬ (fam C (fun l => ∃ a : Addr, l = .cell a ∧ E.J a.block) E.j0 kb).O l := by
 rintro l hs ⟨a, rfl, hj⟩
 rcases hs with h | h | h | h <;> simp only [Loc.cell.injEq] at h <;> subst h
 · exact (O.new C.F (.inl rfl)).2 hj
 · exact (O.new C.F (.inl rfl)).2 hj
 · exact (O.new C.Wg (.inr (.inr (.inr rfl)))).2 hj
 · exact (O.new C.Wg (.inr (.inr (.inr rfl)))).2 hj
theorem WInv.congr {j : Nat} {D D' : Nat → Wp} {tag : Mp} {v wt sm : Nat} (h : WInv j D tag v wt sm) (h1 : ∀ a, a < j → (D' a).cnt = (D a).cnt) (h2 : ∀ a, a < j → (D' a).d23 = (D a).d23) (h3 : ∀ a, a < j → (D' a).e4 = (D a).e4) : WInv j D' tag v wt sm := by
 have e1 : (sumTo j fun i => (D' i).cnt) = sumTo j fun i => (D i).cnt := sumTo_congr h1
 have e2 : (sumTo j fun i => (D' i).d23) = sumTo j fun i => (D i).d23 := sumTo_congr h2
 have e3 : (sumTo j fun i => (D' i).e4) = sumTo j fun i => (D i).e4 := sumTo_congr h3
 exact ⟨by rw [e1, e2, e3]; exact h.opn, by rw [e1, e2, e3]; exact h.w3, by rw [e1, e2, e3]; exact h.fin, h.seen, h.blk⟩
def wakeAll (b : Bool) (D : Nat → WD) : Nat → WD := fun a => wake b (D a)
theorem wakeAll_sum (φ : Wp → Nat) (hφ : ∀ T, φ (.bk T) = φ (.mu T)) (b : Bool) (D : Nat → WD) (j : Nat) : (sumTo j fun a => φ (wakeAll b D a).p) = sumTo j fun a => φ (D a).p := sumTo_congr fun a _ => wake_same φ hφ b (D a)
theorem awake_le (p : Wp) : p.awake ≤ 1 := by cases p <;> simp [Wp.awake]
theorem sum_le' {f : Nat → Nat} {n : Nat} (h : ∀ i, f i ≤ 1) : sumTo n f ≤ n := sum_le fun i _ => h i
theorem stepW {μ : M3} {M : Machine} {t : Trace} {gs : Array Goroutine} {w w' : World} {sl : Option (Nat × Nat)} {u : Trace} {j : Nat} {D : Nat → WD} {tag : Mp} {f0 : Nat} {q : Nat → Nat} {m m' : Mx} {ms ms' v v' wt wt' sm sm' : Nat} {a : Goroutine}
   (I : PInv C P vals Kr K0 Anch F0 E μ M t gs w sl u j D tag f0 q m ms v wt sm a) {i : Nat} (hi : i < j) {g g' : Goroutine} {es : Array Event} (hg : gs[E.j0 + 1 + i]? = some g) (hgo : stepG P false g w = .go g' w' es) {d' : WD}
   (hE : Eff C (· = i) (isG C) w w') (hmu : MuAt C w' m' ms') (hwg : WgAt C.tW C.Wg w' ((v' : Int) * KK + (wt' : Int)) (sm' : Int)) (hgg : RowAt C.G C.tG (2 * C.n) w') (hhh : RowAt C.H C.tH C.n w')
   (hs : WS C P vals i d' (deafBehind (Deaf (E.t0 ++ u) (E.j0 + 1 + i)) es) g' w') (hhas : d'.p.past → Has C vals i w')
   (hrel : d'.p.said → ∃ r, RelBy (stA C.Wg) (E.t0 ++ (u ++ MemOp.ofEvents (E.j0 + 1 + i) g.frame.fn g.frame.place es)) (E.j0 + 1 + i) r)
   (hkb : ∀ b, d'.kb b → (D i).kb b ∨ (b = w.heap.size ∧ w.heap.size < w'.heap.size)) (hkb' : ∀ b, (D i).kb b → d'.kb b) (hev : ∀ e ∈ es, EvWk C d'.kb i w'.heap.size e)
   (hA : AInv j (upd (fun x => (D x).p.th) i d'.p.th) m' ms') (hW : WInv j (upd (fun x => (D x).p) i d'.p) (wakeM (wakes P g g') tag) v' wt' sm') (hms : ms' ≤ ms ∨ wakes P g g' = true) (hbk : (∃ T, d'.p = .bk T) → ms' = 0) (hal : w'.heap.size + (D i).p.al = w.heap.size + d'.p.al)
   (hlt : d'.p.wt + 2 * ms' + tag.phi v' < (D i).p.wt + 2 * ms + tag.phi v ∨ (d'.p.wt + 2 * ms' + tag.phi v' = (D i).p.wt + 2 * ms + tag.phi v ∧ m' = m ∧
     (d'.p.rk m < (D i).p.rk m ∨ (d'.p.rk m = (D i).p.rk m ∧ (d'.f < (D i).f ∨ (d'.f = (D i).f ∧ d'.p.awake < (D i).p.awake ∧ wakes P g g' = false)))))) :
   ∃ M' ops μ', runT P (crowd gs w sl) (E.j0 + 1 + i) = (.next M', ops) ∧ Lt3 μ' μ ∧ Invs C P vals Kr K0 Anch F0 E μ' M' (t ++ ops) := by
 have O := I.ok
 have c := I.com
 obtain ⟨k, hk⟩ : ∃ k, k = E.j0 + 1 + i := ⟨_, rfl⟩
 rw [← hk] at hg hs hrel
 have hk0 : k ≠ 0 := by omega
 have hkb0 : (k == 0) = false := by simp [hk0]
 have hlt' : k < gs.size := (Array.getElem?_eq_some_iff.1 hg).1
 have hrun := runT_crowd_go (P := P) (sl := sl) (i := k) hg (by rw [hkb0]; exact hgo)
 obtain ⟨b, hb⟩ : ∃ b, b = wakes P g g' := ⟨_, rfl⟩
 rw [← hb] at hW hms hlt
 obtain ⟨ops, hops⟩ : ∃ ops, ops = MemOp.ofEvents k g.frame.fn g.frame.place es := ⟨_, rfl⟩
 rw [← hops] at hrun hrel
 have opg : ∀ op ∈ ops, op.g = k := fun op hop => by rw [hops] at hop; obtain ⟨e, _, rfl⟩ := Go.Conc.mem_ofEvents hop; rfl
 have live' : Live C w' := ⟨⟨m', ms', hmu⟩, ⟨_, _, hwg⟩, hgg, hhh⟩
 have tapp : ∀ x : Trace, E.t0 ++ (u ++ x) = (E.t0 ++ u) ++ x := fun x => (Array.append_assoc ..).symm
 have nG : ∀ i', i' < j → ∀ b, (D i').kb b → ¬ isG C b := fun i' h' b hb => (c.kbs i' h' b hb).2.1
 obtain ⟨D', hD'⟩ : ∃ D', D' = upd (wakeAll b D) i d' := ⟨_, rfl⟩
 have Di : D' i = d' := by rw [hD', upd_same]
 have Dn : ∀ x, x ≠ i → D' x = wake b (D x) := fun x hx => by rw [hD', upd_ne _ _ hx]; rfl
 have Dkb : ∀ x, x ≠ i → (D' x).kb = (D x).kb := fun x hx => by rw [Dn x hx, wake_kb]
 have hsz' : w.heap.size ≤ w'.heap.size := hE.size
 have nkb : ∀ x, x < j → ∀ b, (D' x).kb b → b < w'.heap.size ∧ ¬ isG C b ∧ ¬ E.J b ∧ ¬ tag.pv b := by
   intro x hx b hb
   by_cases e : x = i
   · subst e
     rw [Di] at hb
     rcases hkb b hb with h | ⟨rfl, h⟩
     · have := c.kbs x hx b h; exact ⟨by omega, this.2⟩
     · refine ⟨h, fun hG => ?_, fun hJ => ?_, fun hp => ?_⟩
       · have := (O.new _ hG).1; have := c.hsize; omega
       · have := O.jlow _ hJ; have := c.hsize; omega
       · have := (c.pvs _ hp).1; omega
   · rw [Dkb x e] at hb
     have := c.kbs x hx b hb
     exact ⟨by omega, this.2⟩
 have hwkb : ∀ φ : Wp → Nat, (∀ T, φ (.bk T) = φ (.mu T)) → (sumTo j fun x => φ (D' x).p) + φ (D i).p = (sumTo j fun x => φ (D x).p) + φ d'.p := by
   intro φ hφ
   have h1 := sumTo_upd (wakeAll b D) d' (fun d => φ d.p) hi
   rw [← hD'] at h1
   have h2 := wakeAll_sum φ hφ b D j
   have h3 : φ (wakeAll b D i).p = φ (D i).p := wake_same φ hφ b (D i)
   omega
 have hf' : (sumTo j fun x => (D' x).f) + (D i).f = (sumTo j fun x => (D x).f) + d'.f := by
   have h1 := sumTo_upd (wakeAll b D) d' (fun d => d.f) hi
   rw [← hD'] at h1
   have h2 : (sumTo j fun x => (wakeAll b D x).f) = sumTo j fun x => (D x).f := sumTo_congr fun x _ => wake_f b (D x)
   have h3 : (wakeAll b D i).f = (D i).f := wake_f b (D i)
   omega
 have hth : (fun x => (D' x).p.th) = upd (fun x => (D x).p.th) i d'.p.th := by
   funext x
   by_cases e : x = i
   · subst e; rw [Di, upd_same]
   · rw [Dn x e, upd_ne _ _ e]; exact wake_same Wp.th (fun _ => rfl) b (D x)
 have hWD : WInv j (fun x => (D' x).p) (wakeM b tag) v' wt' sm' := by
   have key : ∀ φ : Wp → Nat, (∀ T, φ (.bk T) = φ (.mu T)) → ∀ x, x < j → φ (D' x).p = φ (upd (fun x => (D x).p) i d'.p x) := by
     intro φ hφ x _
     by_cases e : x = i
     · subst e; rw [Di, upd_same]
     · rw [Dn x e, upd_ne _ _ e]; exact wake_same φ hφ b (D x)
   exact hW.congr (key Wp.cnt fun _ => rfl) (key Wp.d23 fun _ => rfl) (key Wp.e4 fun _ => rfl)
 have gsz : ((gs.map (woken P g g' w')).setIfInBounds k g').size = gs.size := by simp
 have gne : ∀ x, x ≠ k → ((gs.map (woken P g g' w')).setIfInBounds k g')[x]? = (gs[x]?).map (woken P g g' w') := fun x hx => by
   rw [Array.getElem?_setIfInBounds_ne (Ne.symm hx), Array.getElem?_map]
 have deafO : ∀ x, x ≠ k → Deaf (E.t0 ++ (u ++ ops)) x = Deaf (E.t0 ++ u) x := fun x hx => by
   rw [tapp]; exact Deaf_other _ (Ne.symm hx) _ opg
 have S' := fam_apart (kb := fun x b => x < j ∧ (D' x).kb b) O (fun x b hb => ⟨(nkb x hb.1 b hb.2).2.1, (nkb x hb.1 b hb.2).2.2.1⟩)
 have hN : ∀ ix x, touchAt (E.t0 ++ u) ix = some x → ∀ ad : Addr, x.loc = .cell ad → ad.block < w.heap.size := fun ix x hx ad e => by
   obtain ⟨op, hop, hopx⟩ := touch_of hx
   exact touch_low (c.low op (Array.mem_of_getElem? hop)) hopx e
 have tr1 : Tr (fam C (fun l => ∃ a : Addr, l = .cell a ∧ E.J a.block) E.j0 fun x b => x < j ∧ (D' x).kb b) (E.t0 ++ u) (E.j0 + j) := by
   refine c.tr.change rfl rfl (fun _ _ => rfl) (fun k' hk' l hl => ?_) (fun k' hk' l hl => ?_)
   · obtain ⟨x, ad, rfl, rfl, h⟩ := hl
     refine ⟨x, ad, rfl, rfl, h.imp (fun ⟨h1, h2⟩ => ⟨h1, ?_⟩) id⟩
     by_cases e : x = i
     · subst e; rw [Di]; exact hkb' _ h2
     · rw [Dkb x e]; exact h2
   · obtain ⟨x, ad, rfl, rfl, h⟩ := hl
     rcases h with ⟨h1, h2⟩ | h
     · by_cases e : x = i
       · subst e
         rw [Di] at h2
         rcases hkb _ h2 with h3 | ⟨h3, _⟩
         · exact .inl ⟨x, ad, rfl, rfl, .inl ⟨h1, h3⟩⟩
         · exact .inr fun ix y hy e => by have := hN ix y hy ad e; omega
       · rw [Dkb x e] at h2
         exact .inl ⟨x, ad, rfl, rfl, .inl ⟨h1, h2⟩⟩
     · exact .inl ⟨x, ad, rfl, rfl, .inr h⟩
 have hevo : ∀ op ∈ ops, ∃ e ∈ es, op = { g := k, fn := g.frame.fn, pos := g.frame.place, act := .ofEvent e } := fun op hop => by rw [hops] at hop; exact Go.Conc.mem_ofEvents hop
 have tr2 : Tr (fam C (fun l => ∃ a : Addr, l = .cell a ∧ E.J a.block) E.j0 fun x b => x < j ∧ (D' x).kb b) (E.t0 ++ (u ++ ops)) (E.j0 + j) := by
   rw [tapp]
   refine tr1.appW S' (k := k) (by omega) (by omega) (fun op hop => ?_) (fam_shO O)
   obtain ⟨e, he, rfl⟩ := hevo op hop
   refine ⟨rfl, fun x hx => ?_⟩
   rcases (hev e he).1 x hx with h | ⟨⟨ad, h1, h2⟩, h3⟩ | ⟨⟨ad, h1, h2⟩, h3, h4⟩
   · exact .inl h
   · exact .inr (.inl ⟨i, ad, hk, h1, h2⟩)
   · exact .inr (.inr ⟨⟨i, ad, hk, h1, h2.imp (fun h => ⟨hi, by rw [Di]; exact h⟩) id⟩, h3⟩)
 have suf2 : Suf (fam C (fun l => ∃ a : Addr, l = .cell a ∧ E.J a.block) E.j0 fun x b => x < j ∧ (D' x).kb b) (stA C.Wg) E.t0 (u ++ ops) := by
   refine Suf.app ⟨c.suf.atom, c.suf.norel⟩ (fun op hop x hx hkd => ?_) (fun op hop hact => ?_)
   · obtain ⟨e, he, rfl⟩ := hevo op hop
     rcases (hev e he).1 x hx with h | ⟨_, h3⟩ | ⟨_, _, h4⟩
     · exact h.1
     · exact absurd hkd h3
     · exact absurd hkd h4
   · obtain ⟨e, he, rfl⟩ := hevo op hop
     exact (hev e he).2.1 (loc_of_act hact)
 have com' : Com C P vals E ((gs.map (woken P g g' w')).setIfInBounds k g') w' (u ++ ops) j D' tag.pv q m' ms' v' wt' sm' := by
   refine ⟨gsz.trans c.size, fun x y h1 h2 hx => ?_, fun x hx => ?_, fun x hx hp => ?_, fun x hx hp => ?_, nkb, fun b hb => ⟨by have := (c.pvs b hb).1; omega, (c.pvs b hb).2⟩, fun x hx => ?_, hmu, hwg, hgg, hhh, fun b hb hG => ?_, Nat.le_trans c.hsize hsz', c.os.trans hE.os, hE.out.trans c.out,
     tr2, suf2, fun op hop => ?_, fun op hop => ?_, c.fresh, fun x h1 h2 => let ⟨z1, z2, z3⟩ := c.zero x h1 h2; ⟨(hE.cells x _ (show ¬ x = i by omega) ⟨rfl, .inl ⟨rfl, .inl rfl⟩⟩).trans z1, (hE.cells x _ (show ¬ x = i by omega) ⟨rfl, .inl ⟨rfl, .inr rfl⟩⟩).trans z2, (hE.cells x _ (show ¬ x = i by omega) ⟨rfl, .inr ⟨rfl, rfl⟩⟩).trans z3⟩, c.past0, fun b h1 h2 => hE.shp b (fun hG => absurd (O.new b hG).1 (by omega)) (fun h => c.shp b h1 h) h2⟩
   · rw [gne x (by omega)] at hx
     obtain ⟨y', hy', rfl⟩ := Option.map_eq_some_iff.1 hx
     have hq := c.old x y' h1 h2 hy'
     rw [woken_quitsD hq, deafO x (by omega)]
     exact hq
   · by_cases e : x = i
     · subst e
       refine ⟨g', by rw [← hk, Array.getElem?_setIfInBounds_self_of_lt (by simpa using hlt')], ?_⟩
       rw [Di, ← hk, tapp, hops, Deaf_own]
       exact hs
     · obtain ⟨y, hy, hws⟩ := c.wk x hx
       refine ⟨woken P g g' w' y, by rw [gne _ (by omega), hy]; rfl, ?_⟩
       rw [Dn x e, deafO _ (by omega), hb]
       have hr : Ry C (· = x) (D x).kb w w' := hE.ry (fun i' h1 h2 => e (by omega)) (fun b hb' => nG x hx b hb') live'
       exact (hws.rely hr).woken g g' w'
   · by_cases e : x = i
     · subst e; rw [Di] at hp; exact hhas hp
     · have hp' : (D x).p.past := by
         rcases wake_p b (D x) with h | ⟨T, h1, h2, _⟩
         · rw [Dn x e, h] at hp; exact hp
         · rw [Dn x e, h2] at hp; exact hp.elim
       obtain ⟨h1, h2, h3⟩ := c.has x hx hp'
       have ne : ¬ (x = i) := e
       exact ⟨(hE.cells x _ ne ⟨rfl, .inl ⟨rfl, .inl rfl⟩⟩).trans h1, (hE.cells x _ ne ⟨rfl, .inl ⟨rfl, .inr rfl⟩⟩).trans h2, (hE.cells x _ ne ⟨rfl, .inr ⟨rfl, rfl⟩⟩).trans h3⟩
   · by_cases e : x = i
     · subst e
       rw [Di] at hp
       rw [← hk]
       exact hrel hp
     · have hp' : (D x).p.said := by
         rcases wake_p b (D x) with h | ⟨T, h1, h2, _⟩
         · rw [Dn x e, h] at hp; exact hp
         · rw [Dn x e, h2] at hp; exact hp.elim
       obtain ⟨r, hr⟩ := c.rel x hx hp'
       exact ⟨r, by rw [tapp]; exact Go.ConcN.RelBy.appOther hr opg (by omega)⟩
   · rw [deafO x (by rw [gsz] at hx; omega)]
     exact c.above x (by rw [gsz] at hx; exact hx)
   · exact (hE.blk b (Nat.lt_of_lt_of_le hb c.hsize) hG).trans (c.frame b hb hG)
   · rw [tapp] at hop
     rcases Array.mem_append.1 hop with h | h
     · exact MemAct.low_mono hsz' (c.low op h)
     · obtain ⟨e, he, rfl⟩ := hevo op h
       exact (hev e he).2.2
   · rcases Array.mem_append.1 hop with h | h
     · exact c.who op h
     · exact .inr (.inr ⟨i, hi, (opg op h).trans hk⟩)
 have hr0 : Ry C (fun _ => False) (fun b => Kr b ∨ tag.pv b) w w' := hE.ry (fun _ h => h.elim) (fun b hb' => hb'.elim (fun h => (O.kr b h).2.2) fun h hG => by have := (O.new b hG).1; have := (c.pvs b h).2; omega) live'
 have hsit : MS C P vals Kr K0 Anch F0 (wakeM b tag) j f0 (Deaf (E.t0 ++ (u ++ ops)) 0) (woken P g g' w' a) w' := by
   rw [deafO 0 (by omega), hb]
   exact (I.sit.rely hr0).woken g g' w'
 have hpv : (wakeM b tag).pv = tag.pv := wakeM_same Mp.pv rfl b tag
 refine ⟨_, ops, msr E.j0 j D' (wakeM b tag) f0 q C.n m' ms' v', by rw [← hk]; exact hrun, ?_, (gs.map (woken P g g' w')).setIfInBounds k g', w', sl, u ++ ops, j, D', wakeM b tag, f0, q, m', ms', v', wt', sm', woken P g g' w' a, ?_⟩
 · rw [I.isμ]
   have e1 := hwkb Wp.wt fun _ => rfl
   have e2 := hwkb (Wp.rk m) fun _ => rfl
   have ephi : (wakeM b tag).phi v' = tag.phi v' := wakeM_same (Mp.phi v') rfl b tag
   have haw : (sumTo j fun x => (D' x).p.awake) ≤ j := sum_le' fun x => awake_le _
   have htw : (wakeM b tag).awake ≤ 1 := by cases wakeM b tag <;> simp [Mp.awake]
   have hjn : j + tag.left = C.n := I.sit.1
   unfold msr Lt3
   rw [ephi]
   rcases hlt with h | ⟨h, rfl, h'⟩
   · exact Prod.Lex.left _ _ (by omega)
   · rw [show (sumTo j fun x => (D' x).p.wt) + 2 * ms' + tag.phi v' = (sumTo j fun x => (D x).p.wt) + 2 * ms + tag.phi v by omega]
     refine Prod.Lex.right _ ?_
     rcases h' with h' | ⟨h', h''⟩
     · exact Prod.Lex.left _ _ (by omega)
     · rw [show (sumTo j fun x => (D' x).p.rk m') = sumTo j fun x => (D x).p.rk m' by omega]
       refine Prod.Lex.right _ ?_
       rcases h'' with h'' | ⟨h1, h2, h3⟩
       · obtain ⟨F, hF⟩ : ∃ F, F = (sumTo j fun x => (D' x).f) + f0 + sumTo (E.j0 + 1) q := ⟨_, rfl⟩
         obtain ⟨G, hG⟩ : ∃ G, G = (sumTo j fun x => (D x).f) + f0 + sumTo (E.j0 + 1) q := ⟨_, rfl⟩
         rw [← hF, ← hG]
         have hFG : F + 1 ≤ G := by omega
         have := Nat.mul_le_mul_left (C.n + 2) hFG
         rw [Nat.mul_add] at this
         omega
       · subst h3
         have e3 : (sumTo j fun x => (D' x).p.awake) + (D i).p.awake = (sumTo j fun x => (D x).p.awake) + d'.p.awake := by
           have h1 := sumTo_upd (wakeAll false D) d' (fun d => d.p.awake) hi
           rw [← hD'] at h1
           exact h1
         rw [show (sumTo j fun x => (D' x).f) = sumTo j fun x => (D x).f by omega, show wakeM false tag = tag from rfl]
         omega
 · refine ⟨O, rfl, by rw [I.isT, tapp], by rw [gne 0 (by omega), I.zero]; rfl, hsit, by rw [hpv]; exact com', by rw [hth]; exact hA, hWD, fun x hx hT => ?_, (by have h1 := hwkb Wp.al fun _ => rfl; have h2 := I.cnt; have h3 : (wakeM b tag).al = tag.al := wakeM_same Mp.al rfl b tag; rw [h3]; omega), rfl⟩
   obtain ⟨T, hT⟩ := hT
   by_cases e : x = i
   · subst e; rw [Di] at hT; exact hbk ⟨T, hT⟩
   · rw [Dn x e] at hT
     rcases wake_p b (D x) with h | ⟨T', _, h2, _⟩
     · rcases hms with h0 | h0
       · have := I.blk x hx ⟨T, h ▸ hT⟩; omega
       · subst h0
         have : (wake true (D x)).p ≠ .bk T := by
           unfold wake
           rw [if_pos rfl]
           cases hp : (D x).p <;> simp [hp]
         exact absurd hT this
     · rw [h2] at hT; cases hT
end
end Go.Proofs.Ytcoppnbjpncdcaa.Q
end
