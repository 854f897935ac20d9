/-
  Part 3 of the proof (merged out of the texts of wip: QMain8, SemOps, SemPtr, SemExec, SemOne, SemStep, SemGlue, SemBeside, QBeg, QBeg2, QBeg3, QBeg4, QBeg5, QEnd, Tp, QSeq, TpFacts, QSeq2, QSeq3).
-/
import Derived.Test.YtcoppnbjpncdcaaM2
section
set_option linter.unusedVariables false
set_option linter.unusedSimpArgs false
namespace Go.Proofs.Ytcoppnbjpncdcaa.Q
open Go Go.Conc
open Go.ConcR (mk KK WgAt wgBlock stA smA rd wr)
noncomputable def ops9 : Array Oper := opsOf m9
theorem m9_eq : m9 = .region 9 ops9 false := rfl
theorem ops9_size : ops9.size = 2 := by kernel_rfl
theorem ops10_size : ops10.size = 1 := by kernel_rfl
theorem rest38_eq : rest38 = .seq (.region 10 ops10 false) (snd rest38) := rfl
section
variable {C : Cfg} {L : Plan} {b : Frame} {cs : List Frame} {T : Array Value}
set_option maxHeartbeats 2000000 in
set_option maxRecDepth 100000 in
theorem toMKd (hb : b.kind ≠ .early) (hT : MT C L T) (h28 : evalT T (.tmp 28) = .int .i64 C.n) : Reach Try.prog true (Rm C L.kr none0) (Dm C L.kr none0) (KP C L []) (MKd C Try.prog L.kr (AnchM C L b cs)) b cs [] 60 T (.code lp38 :: tlLoop) := by
 have W := way0M (C := C) (L := L)
 rw [e38]
 have hsz := hT.size
 refine Reach.more (n := 58 + 2) (by omega) (Reach.runs (n := 58) W hb (offP_ok _) 2 ?_)
 simp only [evRun, evStep, List.range, List.range.loop, ops5_size]
 refine Reach.more (n := 57 + 1) (by omega) (Reach.op W hb (offP_ok _) (o := ops5[0]'(by rw [ops5_size]; decide)) (v := .bool false) rfl rfl ?_ ?_)
 · rw [show (ops5[0]'(by rw [ops5_size]; decide)).op = .binOp .lss 3 (.tmp 28) (.tmp 27) 3 from rfl]
   simp [evPure, h28, hT.s27, intBin]
 rw [show (ops5[0]'(by rw [ops5_size]; decide)).dst = some 29 from rfl]
 have h1 := hT.put (t := 29) (by decide) (by decide) (.bool false)
 have g29 : evalT (putT T (some 29) (.bool false)) (.tmp 29) = .bool false := ev_eq hT.size (by decide)
 generalize putT T (some 29) (.bool false) = T1 at h1 g29 ⊢
 simp only [tlLoop]
 rw [rest38_eq]
 refine Reach.more (n := 41 + 6) (by omega) (Reach.runs (n := 41) W hb (offP_ok _) 6 ?_)
 simp only [evRun, evStep, exitTo, g29, ops10_size, List.range, List.range.loop, beq_self_eq_true, ↓reduceIte]
 have hB : ∀ T56 l (w : World), G ((base 56).at ⟨T56, []⟩ l) (below b cs T1) = G ((base 56).at ⟨T56, []⟩ l) (b.at ⟨T1, []⟩ (.inRegion ops10 [0] :: .code (snd rest38) :: []) :: cs) := fun _ _ _ => rfl
 refine Reach.more (n := 40 + 1) (by omega) (Reach.call W hb (o := ops10[0]'(by rw [ops10_size]; decide)) rfl rfl rfl Try.func56 (by kernel_rfl) (c := body56) rfl ?_)
 refine (?_ : RM C L (MKd C Try.prog L.kr (AnchM C L b cs)) (below b cs T1) 40 _ _)
 have s0 : ∀ (T56 : Array Value), T56 = (#[Operand.tmp 9].map (evalT T1) ++ Array.replicate (Try.f56.ntmps - (#[Operand.tmp 9].map (evalT T1)).size) undef) → T56.size = 84 ∧ evalT T56 (.tmp 0) = .pointer (some (stA C.Wg)) := fun T56 e => by
   subst e
   refine ⟨size_slots _ _ (by simp [Try.f56]), (evalT_slots _ _ _ (by simp)).trans ?_⟩
   simp [h1.s9]
 obtain ⟨T56, hT56⟩ : ∃ T56, T56 = (#[Operand.tmp 9].map (evalT T1) ++ Array.replicate (Try.f56.ntmps - (#[Operand.tmp 9].map (evalT T1)).size) undef) := ⟨_, rfl⟩
 clear hsz
 obtain ⟨hsz, h0⟩ := s0 T56 hT56
 refine (?_ : RM C L (MKd C Try.prog L.kr (AnchM C L b cs)) (below b cs T1) 40 (#[Operand.tmp 9].map (evalT T1) ++ Array.replicate (Try.f56.ntmps - (#[Operand.tmp 9].map (evalT T1)).size) undef) [.code body56])
 rw [← hT56]
 clear s0 hT56
 have hl : lp56 = inLp (snd body56) := rfl
 have hA : ∀ T, T.size = 84 → evalT T (.tmp 0) = .pointer (some (stA C.Wg)) → RM C L (AnchM C L b cs) (below b cs T1) 0 T (.code lp56 :: .inLoop lp56 :: [.inBlock 0]) := fun T z e w hw w₁ h₁ => ⟨T1, T, h1, z, e, (W.rely w w₁ hw h₁).k, rfl⟩
 simp only [lp56, body56, Try.f56, Option.getD_some, snd, inLp] at hA ⊢
 refine Reach.more (n := 20 + 5) (by omega) (Reach.runs (n := 20) W (by simp [base]) (offP_ok _) 5 ?_)
 simp only [evRun, evStep, zqa, Nat.zero_add, List.range, List.range.loop, List.getElem?_toArray, List.getElem?_cons_zero, Region.wanted, ↓reduceIte, evPure, evalT_const]
 intro w hw
 refine Goes.stop fun w₁ h₁ => ?_
 have hw₁ := W.rely w w₁ hw h₁
 refine ⟨rfl, _, 20, stepG_mark0 .disable (by simp) rfl (wantedA rfl) (by simp [base]) rfl Try.func69 x69_n x69_b x69_x x69_f, ?_⟩
 rw [putA]
 refine (?_ : RM C L (AnchM C L b cs) (below b cs T1) 20 _ _) _ hw₁
 refine Reach.more (n := 0 + 3) (by omega) (Reach.runs (n := 0) W (by simp [base]) (offP_ok _) 3 ?_)
 simp only [evRun, evStep, List.getElem_toArray, List.getElem_cons_zero]
 refine hA _ ?_ ?_
 · rw [size_putT]; exact hsz
 · simp only [↓reduceIte, evalT_put, hsz, Nat.reduceLT, reduceCtorEq, h0]
set_option maxHeartbeats 2000000 in
set_option maxRecDepth 100000 in
theorem toNext {Stop : Goroutine → World → Prop} (hb : b.kind ≠ .early) (hT : MT C L T) {j n : Nat} (hj : j < 1000) (h28 : evalT T (.tmp 28) = .int .i64 j) {ops : Array Oper}
   (h : ∀ T', MT C L T' → evalT T' (.tmp 28) = .int .i64 (j + 1 : Nat) → Reach Try.prog true (Rm C L.kr none0) (Dm C L.kr none0) (KP C L []) Stop b cs [] n T' (.code lp38 :: tlLoop)) :
   Reach Try.prog true (Rm C L.kr none0) (Dm C L.kr none0) (KP C L []) Stop b cs [] (n + 7) T (.inRegion ops [] :: .inBlock 1 :: .code m9 :: tlLoop) := by
 have W := way0M (C := C) (L := L)
 have hsz := hT.size
 rw [m9_eq]
 refine Reach.more (n := (n + 4) + 3) (by omega) (Reach.runs (n := n + 4) W hb (offP_ok _) 3 ?_)
 simp only [evRun, evStep, List.range, List.range.loop, ops9_size]
 have hw1 : IntKind.i64.wrap ((j : Int) + 1) = ((j + 1 : Nat) : Int) := by
   rw [IntKind.wrap_i64]
   omega
 refine Reach.more (n := (n + 3) + 1) (by omega) (Reach.op W hb (offP_ok _) (o := ops9[0]'(by rw [ops9_size]; decide)) (v := .int .i64 (j + 1 : Nat)) rfl rfl ?_ ?_)
 · rw [show (ops9[0]'(by rw [ops9_size]; decide)).op = .binOp .add 3 (.tmp 28) (.const (.int .i64 1)) 3 from rfl]
   simp [evPure, h28, evalT_const, intBin, hw1]
 rw [show (ops9[0]'(by rw [ops9_size]; decide)).dst = some 35 from rfl]
 have h1 := hT.put (t := 35) (by decide) (by decide) (.int .i64 (j + 1 : Nat))
 have g35 : evalT (putT T (some 35) (.int .i64 (j + 1 : Nat))) (.tmp 35) = .int .i64 (j + 1 : Nat) := ev_eq hT.size (by decide)
 generalize putT T (some 35) (.int .i64 (j + 1 : Nat)) = T1 at h1 g35 ⊢
 refine Reach.more (n := (n + 2) + 1) (by omega) (Reach.op W hb (offP_ok _) (o := ops9[1]'(by rw [ops9_size]; decide)) (v := .int .i64 (j + 1 : Nat)) rfl rfl ?_ ?_)
 · rw [show (ops9[1]'(by rw [ops9_size]; decide)).op = .move (.tmp 35) from rfl]
   simp [evPure, g35]
 rw [show (ops9[1]'(by rw [ops9_size]; decide)).dst = some 28 from rfl]
 have h2 := h1.put (t := 28) (by decide) (by decide) (.int .i64 (j + 1 : Nat))
 have g28 : evalT (putT T1 (some 28) (.int .i64 (j + 1 : Nat))) (.tmp 28) = .int .i64 (j + 1 : Nat) := ev_eq h1.size (by decide)
 generalize putT T1 (some 28) (.int .i64 (j + 1 : Nat)) = T2 at h2 g28 ⊢
 refine Reach.more (n := (n + 1) + 1) (by omega) (Reach.endRegion W ?_)
 simp only [tlLoop]
 exact Reach.inLoop W (h T2 h2 g28)
def stopOf (C : Cfg) (vals : Nat → Value × Value × Value) (L : Plan) (b : Frame) (cs : List Frame) : Nat → Goroutine → World → Prop
 | 0 => MKd C Try.prog L.kr (AnchM C L b cs)
 | r + 1 => MA1 C Try.prog vals L.kr L.k0 (C.n - (r + 1)) (MSpawn C Try.prog vals L.kr L.k0 (MFin C Try.prog L.kr (AnchM C L b cs)) r)
theorem mspawn_of {vals : Nat → Value × Value × Value} {r f : Nat} {g : Goroutine} {w : World} (h : GM C Try.prog L.kr none0 (stopOf C vals L b cs r) f g w) : MSpawn C Try.prog vals L.kr L.k0 (MFin C Try.prog L.kr (AnchM C L b cs)) r g w := by
 cases r with
 | zero => exact ⟨f, h⟩
 | succ r => exact ⟨f, h⟩
theorem roundY {vals : Nat → Value × Value × Value} (Q : GeoM C L vals) (hsl : 0 < C.n → ∃ c, L.sl = .slice (some ⟨L.V, L.voff, none⟩) C.n c) (A : C.Apart) (hk : ∀ b, L.kr b → b ≠ C.Wg) (hn : C.n < 1000) (hb : b.kind ≠ .early) :
   ∀ r, r ≤ C.n → ∀ T, MT C L T → evalT T (.tmp 28) = .int .i64 (C.n - r : Nat) → Reach Try.prog true (Rm C L.kr none0) (Dm C L.kr none0) (KP C L []) (stopOf C vals L b cs r) b cs [] 60 T (.code lp38 :: tlLoop)
 | 0, _, T, hT, h28 => toMKd hb hT h28
 | r + 1, hr, T, hT, h28 => by
   refine toMA1 Q (hsl (by omega)) A hk (j := C.n - (r + 1)) (by omega) hb hT h28 fun T' ops hT' h28' w hw => ?_
   have h := toNext (ops := ops) (Stop := stopOf C vals L b cs r) (cs := cs) hb hT' (j := C.n - (r + 1)) (by omega) h28' fun T2 hT2 h2 => roundY Q hsl A hk hn hb r (by omega) T2 hT2 (by rw [h2]; congr 2; omega)
   exact mspawn_of (h w ⟨hw, by simp⟩)
theorem spawnOk {vals : Nat → Value × Value × Value} (Q : GeoM C L vals) (hsl : 0 < C.n → ∃ c, L.sl = .slice (some ⟨L.V, L.voff, none⟩) C.n c) (A : C.Apart) (hk : ∀ b, L.kr b → b ≠ C.Wg) (hn : C.n < 1000) (hb : b.kind ≠ .early) (hT : MT C L T) (h28 : evalT T (.tmp 28) = .int .i64 (0 : Nat)) (w : World) (hw : KM C L w) :
   GM C Try.prog L.kr none0 (stopOf C vals L b cs C.n) 60 (G (b.at ⟨T, []⟩ (.code lp38 :: tlLoop)) cs) w :=
 roundY Q hsl A hk hn hb C.n (Nat.le_refl _) T hT (by rw [h28, Nat.sub_self]) w ⟨hw, by simp⟩
theorem anchOk (A : C.Apart) (hk : ∀ b, L.kr b → b ≠ C.Wg) : ∃ f, ∀ g w, AnchM C L b cs g w → GM C Try.prog L.kr none0 (MW1 C Try.prog L.kr (AnchM C L b cs) (FinM C L b cs)) f g w :=
 ⟨60, fun g w ⟨T38, T, hT, hsz, h0, hw, e⟩ => by subst e; exact headW A hk hT hsz h0 w ⟨hw, by simp⟩⟩
end
end Go.Proofs.Ytcoppnbjpncdcaa.Q
end
section
namespace Go.Proofs.Ytcoppnbjpncdcaa.Sim
open Go
section
variable {P S : Program} {α β : Type}
theorem Fol.ite {c : Prop} [Decidable c] {x y : Sem α} (hx : Fol P S x) (hy : Fol P S y) : Fol P S (if c then x else y) := by split <;> assumption
theorem Fol.stuck (m : String) : Fol P S (Go.stuck m : Sem α) := Fol.halt trivial
theorem Fol.goPanic (v : Value) : Fol P S (Go.goPanic v : Sem α) := Fol.halt trivial
theorem Fol.unsupported {u : Unsupported} (h : calmHalt (.unsupported u)) : Fol P S (Go.unsupported u : Sem α) := Fol.halt h
theorem Fol.ofProgram {k : Program → Sem α} (he : k P = k S) (hk : Fol P S (k S)) : Fol P S (Go.program >>= k) :=
 Fol.program (k := k) he hk
variable (hT : S.toTables = P.toTables)
include hT
theorem info_eq (t : TypeId) : P.info? t = S.info? t := by
 obtain ⟨T, F⟩ := P; obtain ⟨T', F'⟩ := S; simp only at hT; subst hT; rfl
theorem under_eq (t : TypeId) : P.underlying t = S.underlying t := by
 obtain ⟨T, F⟩ := P; obtain ⟨T', F'⟩ := S; simp only at hT; subst hT; rfl
theorem Fol.typeInfo (t : TypeId) : Fol P S (Go.typeInfo t) := by
 unfold Go.typeInfo
 refine Fol.ofProgram (by simp only [info_eq hT]) ?_
 split
 · exact Fol.pure _
 · exact Fol.stuck _
theorem Fol.underlying (t : TypeId) : Fol P S (Go.underlying t) := by
 unfold Go.underlying
 refine Fol.ofProgram (by simp only [under_eq hT]) ?_
 split
 · exact Fol.pure _
 · exact Fol.stuck _
theorem Fol.sizeOf (t : TypeId) : Fol P S (Go.sizeOf t) := Fol.bind (Fol.typeInfo hT t) fun _ => Fol.pure _
theorem Fol.isAgg (t : TypeId) : Fol P S (Go.isAgg t) := by
 unfold Go.isAgg
 refine Fol.bind (Fol.underlying hT t) fun d => ?_
 split <;> exact Fol.pure _
theorem Fol.zeroValue (t : TypeId) : Fol P S (Go.zeroValue t) := by
 unfold Go.zeroValue
 refine Fol.bind (Fol.typeInfo hT t) fun d => ?_
 split
 · exact Fol.pure _
 · exact Fol.unsupported trivial
omit hT in
theorem Fol.loadCellsFrom (a : Addr) : ∀ (n i : Nat) (acc : Array Value), Fol P S (Go.loadCellsFrom a i n acc)
 | 0, _, _ => Fol.pure _
 | n + 1, i, _ => Fol.bind (Fol.load _) fun _ => Fol.loadCellsFrom a n (i + 1) _
omit hT in
theorem Fol.loadCells (a : Addr) (n : Nat) : Fol P S (Go.loadCells a n) := Fol.loadCellsFrom a n 0 _
omit hT in
theorem Fol.storeCells (a : Addr) : ∀ (vs : List Value) (i : Nat), Fol P S (Go.storeCells a vs i)
 | [], _ => Fol.pure _
 | _ :: rest, i => Fol.bind (Fol.store _ _) fun _ => Fol.storeCells a rest (i + 1)
theorem Fol.loadVar (t : TypeId) (a : Addr) : Fol P S (Go.loadVar t a) := by
 unfold Go.loadVar
 refine Fol.bind (Fol.isAgg hT t) fun b => ?_
 split
 · exact Fol.bind (Fol.sizeOf hT t) fun n => Fol.bind (Fol.loadCells a n) fun _ => Fol.pure _
 · exact Fol.load a
theorem Fol.storeVar (t : TypeId) (a : Addr) (v : Value) : Fol P S (Go.storeVar t a v) := by
 unfold Go.storeVar
 refine Fol.bind (Fol.sizeOf hT t) fun b => ?_
 split
 · exact Fol.bind (Fol.stuck _) fun _ => Fol.storeCells _ _ _
 · exact Fol.storeCells _ _ _
omit hT in
theorem Fol.newRow (t : TypeId) (c : Array Value) : Fol P S (Go.newRow t c) := Fol.bind (Fol.newCells c t (0, 0)) fun _ => Fol.pure _
omit hT in
theorem Fol.newVar (t : TypeId) (v : Value) : Fol P S (Go.newVar t v) := Fol.newRow t _
theorem Fol.elemOf (t : TypeId) : Fol P S (Go.elemOf t) := by
 unfold Go.elemOf
 refine Fol.bind (Fol.underlying hT t) fun d => ?_
 split
 · exact Fol.pure _
 · exact Fol.stuck _
theorem Fol.part (t : TypeId) (cs : Array Value) (off : Nat) : Fol P S (Go.part t cs off) := by
 unfold Go.part
 refine Fol.bind (Fol.isAgg hT t) fun b => ?_
 split
 · exact Fol.bind (Fol.sizeOf hT t) fun n => Fol.pure _
 · split
   · exact Fol.pure _
   · exact Fol.stuck _
theorem Fol.runtimePanic (e : RuntimeError) : Fol P S (Go.runtimePanic e : Sem α) := by
 unfold Go.runtimePanic
 refine Fol.ofProgram ?_ ?_
 · obtain ⟨T, F⟩ := P; obtain ⟨T', F'⟩ := S; simp only at hT; subst hT; rfl
 · cases e with
   | bounds x y s c => exact Fol.goPanic _
   | error m => exact Fol.goPanic _
   | plain m => exact Fol.goPanic _
   | nilDeref => exact Fol.goPanic _
   | typeAssertion i c a m => exact Fol.bind (Fol.elemOf hT _) fun _ => Fol.bind (Fol.newVar _ _) fun _ => Fol.goPanic _
   | panicNil => exact Fol.bind (Fol.elemOf hT _) fun _ => Fol.bind (Fol.newVar _ _) fun _ => Fol.goPanic _
   | unhashable t => exact Fol.goPanic _
theorem Fol.boundsPanic (k : IntKind) (x y : Int) (c : BoundsCode) : Fol P S (Go.boundsPanic k x y c : Sem α) := by
 unfold Go.boundsPanic
 split
 · exact Fol.bind (Fol.bind (Fol.choose _) fun _ => Fol.pure _) fun _ => Fol.runtimePanic hT _
 · exact Fol.bind (Fol.pure _) fun _ => Fol.runtimePanic hT _
omit hT in
theorem Fol.asIntOf (v : Value) : Fol P S (Go.asIntOf v) := by
 unfold Go.asIntOf
 split
 · exact Fol.pure _
 · exact Fol.unsupported trivial
 · exact Fol.stuck _
omit hT in
theorem Fol.asInt (v : Value) : Fol P S (Go.asInt v) := Fol.bind (Fol.asIntOf v) fun _ => Fol.pure _
omit hT in
theorem Fol.asBool (v : Value) : Fol P S (Go.asBool v) := by
 unfold Go.asBool
 split
 · exact Fol.pure _
 · exact Fol.stuck _
omit hT in
theorem Fol.asAgg (v : Value) : Fol P S (Go.asAgg v) := by
 unfold Go.asAgg
 split
 · exact Fol.pure _
 · exact Fol.stuck _
theorem Fol.asAddr (v : Value) : Fol P S (Go.asAddr v) := by
 unfold Go.asAddr
 split
 · exact Fol.pure _
 · exact Fol.runtimePanic hT _
 · exact Fol.stuck _
omit hT in
theorem Fol.sureAddr (v : Value) : Fol P S (Instr.sureAddr v) := by
 unfold Instr.sureAddr
 split
 · exact Fol.pure _
 · exact Fol.stuck _
omit hT in
theorem Fol.map {s : Sem α} (f : α → β) (hs : Fol P S s) : Fol P S (f <$> s) := by
 have e : (f <$> s) = s >>= fun a => Pure.pure (f a) := by rw [bind_pure_comp]
 rw [e]; exact Fol.bind hs fun _ => Fol.pure _
omit hT in
theorem Fol.mapM {γ : Type} (f : γ → Sem α) (hf : ∀ x, Fol P S (f x)) (xs : Array γ) : Fol P S (xs.mapM f) := by
 have hl : ∀ (l : List γ), Fol P S (l.mapM f) := by
   intro l
   induction l with
   | nil => rw [List.mapM_nil]; exact Fol.pure _
   | cons x l ih => rw [List.mapM_cons]; exact Fol.bind (hf x) fun _ => Fol.bind ih fun _ => Fol.pure _
 rw [Array.mapM_eq_mapM_toList]
 exact Fol.map _ (hl _)
omit hT in
theorem Fol.foldlM {γ : Type} (f : α → γ → Sem α) (hf : ∀ a x, Fol P S (f a x)) : ∀ (l : List γ) (a : α), Fol P S (l.foldlM f a)
 | [], _ => by rw [List.foldlM_nil]; exact Fol.pure _
 | x :: l, a => by rw [List.foldlM_cons]; exact Fol.bind (hf a x) fun b => Fol.foldlM f hf l b
theorem Fol.build (t : TypeId) (parts : Array (Nat × Value)) : Fol P S (Instr.build t parts) := by
 unfold Instr.build
 repeat' (first
   | assumption
   | exact Fol.pure _
   | exact Fol.stuck _
   | exact Fol.goPanic _
   | (refine Fol.unsupported ?_; exact True.intro)
   | exact Fol.runtimePanic hT _
   | exact Fol.boundsPanic hT _ _ _ _
   | exact Fol.underlying hT _
   | exact Fol.typeInfo hT _
   | exact Fol.sizeOf hT _
   | exact Fol.isAgg hT _
   | exact Fol.zeroValue hT _
   | exact Fol.elemOf hT _
   | exact Fol.part hT _ _ _
   | exact Fol.asIntOf _
   | exact Fol.asInt _
   | exact Fol.asBool _
   | exact Fol.asAgg _
   | exact Fol.asAddr hT _
   | exact Fol.sureAddr _
   | exact Fol.loadVar hT _ _
   | exact Fol.storeVar hT _ _ _
   | exact Fol.newRow _ _
   | exact Fol.newVar _ _
   | exact Fol.choose _
   | exact Fol.askRoom _
   | exact Fol.load _
   | exact Fol.store _ _
   | exact Fol.loadCells _ _
   | exact Fol.storeCells _ _ _
   | (refine Fol.mapM _ (fun _ => ?_) _)
   | (refine Fol.bind ?_ (fun _ => ?_))
   | split
   | dsimp only)
theorem Fol.buildSlice (t : TypeId) (n : Nat) (parts : Array (Nat × Value)) : Fol P S (Instr.buildSlice t n parts) := by
 unfold Instr.buildSlice
 repeat' (first
   | assumption
   | exact Fol.pure _
   | exact Fol.stuck _
   | exact Fol.goPanic _
   | (refine Fol.unsupported ?_; exact True.intro)
   | exact Fol.runtimePanic hT _
   | exact Fol.boundsPanic hT _ _ _ _
   | exact Fol.underlying hT _
   | exact Fol.typeInfo hT _
   | exact Fol.sizeOf hT _
   | exact Fol.isAgg hT _
   | exact Fol.zeroValue hT _
   | exact Fol.elemOf hT _
   | exact Fol.part hT _ _ _
   | exact Fol.asIntOf _
   | exact Fol.asInt _
   | exact Fol.asBool _
   | exact Fol.asAgg _
   | exact Fol.asAddr hT _
   | exact Fol.sureAddr _
   | exact Fol.loadVar hT _ _
   | exact Fol.storeVar hT _ _ _
   | exact Fol.newRow _ _
   | exact Fol.newVar _ _
   | exact Fol.choose _
   | exact Fol.askRoom _
   | exact Fol.load _
   | exact Fol.store _ _
   | exact Fol.loadCells _ _
   | exact Fol.storeCells _ _ _
   | (refine Fol.bind ?_ (fun _ => ?_))
   | split
   | dsimp only)
theorem Fol.makeSlice (t : TypeId) (l c : Value) : Fol P S (Instr.makeSlice t l c) := by
 unfold Instr.makeSlice
 repeat' (first
   | assumption
   | exact Fol.pure _
   | exact Fol.stuck _
   | exact Fol.goPanic _
   | (refine Fol.unsupported ?_; exact True.intro)
   | exact Fol.runtimePanic hT _
   | exact Fol.boundsPanic hT _ _ _ _
   | exact Fol.underlying hT _
   | exact Fol.typeInfo hT _
   | exact Fol.sizeOf hT _
   | exact Fol.isAgg hT _
   | exact Fol.zeroValue hT _
   | exact Fol.elemOf hT _
   | exact Fol.part hT _ _ _
   | exact Fol.asIntOf _
   | exact Fol.asInt _
   | exact Fol.asBool _
   | exact Fol.asAgg _
   | exact Fol.asAddr hT _
   | exact Fol.sureAddr _
   | exact Fol.loadVar hT _ _
   | exact Fol.storeVar hT _ _ _
   | exact Fol.newRow _ _
   | exact Fol.newVar _ _
   | exact Fol.choose _
   | exact Fol.askRoom _
   | exact Fol.load _
   | exact Fol.store _ _
   | exact Fol.loadCells _ _
   | exact Fol.storeCells _ _ _
   | (refine Fol.bind ?_ (fun _ => ?_))
   | split
   | dsimp only)
theorem Fol.indexAt (t : TypeId) (x ix : Value) : Fol P S (Instr.indexAt t x ix) := by
 unfold Instr.indexAt
 repeat' (first
   | assumption
   | exact Fol.pure _
   | exact Fol.stuck _
   | exact Fol.goPanic _
   | (refine Fol.unsupported ?_; exact True.intro)
   | exact Fol.runtimePanic hT _
   | exact Fol.boundsPanic hT _ _ _ _
   | exact Fol.underlying hT _
   | exact Fol.typeInfo hT _
   | exact Fol.sizeOf hT _
   | exact Fol.isAgg hT _
   | exact Fol.zeroValue hT _
   | exact Fol.elemOf hT _
   | exact Fol.part hT _ _ _
   | exact Fol.asIntOf _
   | exact Fol.asInt _
   | exact Fol.asBool _
   | exact Fol.asAgg _
   | exact Fol.asAddr hT _
   | exact Fol.sureAddr _
   | exact Fol.loadVar hT _ _
   | exact Fol.storeVar hT _ _ _
   | exact Fol.newRow _ _
   | exact Fol.newVar _ _
   | exact Fol.choose _
   | exact Fol.askRoom _
   | exact Fol.load _
   | exact Fol.store _ _
   | exact Fol.loadCells _ _
   | exact Fol.storeCells _ _ _
   | (refine Fol.bind ?_ (fun _ => ?_))
   | split
   | dsimp only)
theorem Fol.sliceBound (x : Value) (y : Nat) (c : BoundsCode) : Fol P S (Instr.sliceBound x y c) := by
 unfold Instr.sliceBound
 repeat' (first
   | assumption
   | exact Fol.pure _
   | exact Fol.stuck _
   | exact Fol.goPanic _
   | (refine Fol.unsupported ?_; exact True.intro)
   | exact Fol.runtimePanic hT _
   | exact Fol.boundsPanic hT _ _ _ _
   | exact Fol.underlying hT _
   | exact Fol.typeInfo hT _
   | exact Fol.sizeOf hT _
   | exact Fol.isAgg hT _
   | exact Fol.zeroValue hT _
   | exact Fol.elemOf hT _
   | exact Fol.part hT _ _ _
   | exact Fol.asIntOf _
   | exact Fol.asInt _
   | exact Fol.asBool _
   | exact Fol.asAgg _
   | exact Fol.asAddr hT _
   | exact Fol.sureAddr _
   | exact Fol.loadVar hT _ _
   | exact Fol.storeVar hT _ _ _
   | exact Fol.newRow _ _
   | exact Fol.newVar _ _
   | exact Fol.choose _
   | exact Fol.askRoom _
   | exact Fol.load _
   | exact Fol.store _ _
   | exact Fol.loadCells _ _
   | exact Fol.storeCells _ _ _
   | (refine Fol.bind ?_ (fun _ => ?_))
   | split
   | dsimp only)
theorem Fol.sliceBounds (b : Bool) (n c : Nat) (lo hi mx : Option Value) : Fol P S (Instr.sliceBounds b n c lo hi mx) := by
 unfold Instr.sliceBounds
 repeat' (first
   | assumption
   | exact Fol.pure _
   | exact Fol.stuck _
   | exact Fol.goPanic _
   | (refine Fol.unsupported ?_; exact True.intro)
   | exact Fol.runtimePanic hT _
   | exact Fol.boundsPanic hT _ _ _ _
   | exact Fol.underlying hT _
   | exact Fol.typeInfo hT _
   | exact Fol.sizeOf hT _
   | exact Fol.isAgg hT _
   | exact Fol.zeroValue hT _
   | exact Fol.elemOf hT _
   | exact Fol.part hT _ _ _
   | exact Fol.asIntOf _
   | exact Fol.asInt _
   | exact Fol.asBool _
   | exact Fol.asAgg _
   | exact Fol.asAddr hT _
   | exact Fol.sureAddr _
   | exact Fol.loadVar hT _ _
   | exact Fol.storeVar hT _ _ _
   | exact Fol.newRow _ _
   | exact Fol.newVar _ _
   | exact Fol.choose _
   | exact Fol.askRoom _
   | exact Fol.load _
   | exact Fol.store _ _
   | exact Fol.loadCells _ _
   | exact Fol.storeCells _ _ _
   | exact Fol.sliceBound hT _ _ _
   | (refine Fol.bind ?_ (fun _ => ?_))
   | split
   | dsimp only)
theorem Fol.slice (t : TypeId) (x : Value) (lo hi mx : Option Value) : Fol P S (Instr.slice t x lo hi mx) := by
 unfold Instr.slice
 repeat' (first
   | assumption
   | exact Fol.pure _
   | exact Fol.stuck _
   | exact Fol.goPanic _
   | (refine Fol.unsupported ?_; exact True.intro)
   | exact Fol.runtimePanic hT _
   | exact Fol.boundsPanic hT _ _ _ _
   | exact Fol.underlying hT _
   | exact Fol.typeInfo hT _
   | exact Fol.sizeOf hT _
   | exact Fol.isAgg hT _
   | exact Fol.zeroValue hT _
   | exact Fol.elemOf hT _
   | exact Fol.part hT _ _ _
   | exact Fol.asIntOf _
   | exact Fol.asInt _
   | exact Fol.asBool _
   | exact Fol.asAgg _
   | exact Fol.asAddr hT _
   | exact Fol.sureAddr _
   | exact Fol.loadVar hT _ _
   | exact Fol.storeVar hT _ _ _
   | exact Fol.newRow _ _
   | exact Fol.newVar _ _
   | exact Fol.choose _
   | exact Fol.askRoom _
   | exact Fol.load _
   | exact Fol.store _ _
   | exact Fol.loadCells _ _
   | exact Fol.storeCells _ _ _
   | exact Fol.sliceBounds hT _ _ _ _ _ _
   | (refine Fol.bind ?_ (fun _ => ?_))
   | split
   | dsimp only)
theorem Fol.sliceAt (t : TypeId) (x : Value) (lo hi mx : Option Value) : Fol P S (Instr.sliceAt t x lo hi mx) := by
 unfold Instr.sliceAt
 repeat' (first
   | assumption
   | exact Fol.pure _
   | exact Fol.stuck _
   | exact Fol.goPanic _
   | (refine Fol.unsupported ?_; exact True.intro)
   | exact Fol.runtimePanic hT _
   | exact Fol.boundsPanic hT _ _ _ _
   | exact Fol.underlying hT _
   | exact Fol.typeInfo hT _
   | exact Fol.sizeOf hT _
   | exact Fol.isAgg hT _
   | exact Fol.zeroValue hT _
   | exact Fol.elemOf hT _
   | exact Fol.part hT _ _ _
   | exact Fol.asIntOf _
   | exact Fol.asInt _
   | exact Fol.asBool _
   | exact Fol.asAgg _
   | exact Fol.asAddr hT _
   | exact Fol.sureAddr _
   | exact Fol.loadVar hT _ _
   | exact Fol.storeVar hT _ _ _
   | exact Fol.newRow _ _
   | exact Fol.newVar _ _
   | exact Fol.choose _
   | exact Fol.askRoom _
   | exact Fol.load _
   | exact Fol.store _ _
   | exact Fol.loadCells _ _
   | exact Fol.storeCells _ _ _
   | exact Fol.sliceBounds hT _ _ _ _ _ _
   | exact Fol.slice hT _ _ _ _ _
   | (refine Fol.bind ?_ (fun _ => ?_))
   | split
   | dsimp only)
omit hT in
theorem Fol.extract (x : Value) (i : Nat) : Fol P S (Instr.extract x i) := by
 unfold Instr.extract
 repeat' (first
   | assumption
   | exact Fol.pure _
   | exact Fol.stuck _
   | exact Fol.goPanic _
   | (refine Fol.unsupported ?_; exact True.intro)
   | exact Fol.runtimePanic hT _
   | exact Fol.boundsPanic hT _ _ _ _
   | exact Fol.underlying hT _
   | exact Fol.typeInfo hT _
   | exact Fol.sizeOf hT _
   | exact Fol.isAgg hT _
   | exact Fol.zeroValue hT _
   | exact Fol.elemOf hT _
   | exact Fol.part hT _ _ _
   | exact Fol.asIntOf _
   | exact Fol.asInt _
   | exact Fol.asBool _
   | exact Fol.asAgg _
   | exact Fol.asAddr hT _
   | exact Fol.sureAddr _
   | exact Fol.loadVar hT _ _
   | exact Fol.storeVar hT _ _ _
   | exact Fol.newRow _ _
   | exact Fol.newVar _ _
   | exact Fol.choose _
   | exact Fol.askRoom _
   | exact Fol.load _
   | exact Fol.store _ _
   | exact Fol.loadCells _ _
   | exact Fol.storeCells _ _ _
   | (refine Fol.bind ?_ (fun _ => ?_))
   | split
   | dsimp only)
omit hT in
omit hT in
theorem Fol.intArith (op : BinOp) (k : IntKind) (x y : Int) : Fol P S (Op.intArith op k x y) := by
 unfold Op.intArith
 repeat' (first
   | assumption
   | exact Fol.pure _
   | exact Fol.stuck _
   | exact Fol.goPanic _
   | (refine Fol.unsupported ?_; exact True.intro)
   | exact Fol.runtimePanic hT _
   | exact Fol.boundsPanic hT _ _ _ _
   | exact Fol.underlying hT _
   | exact Fol.typeInfo hT _
   | exact Fol.sizeOf hT _
   | exact Fol.isAgg hT _
   | exact Fol.zeroValue hT _
   | exact Fol.elemOf hT _
   | exact Fol.part hT _ _ _
   | exact Fol.asIntOf _
   | exact Fol.asInt _
   | exact Fol.asBool _
   | exact Fol.asAgg _
   | exact Fol.asAddr hT _
   | exact Fol.sureAddr _
   | exact Fol.loadVar hT _ _
   | exact Fol.storeVar hT _ _ _
   | exact Fol.newRow _ _
   | exact Fol.newVar _ _
   | exact Fol.choose _
   | exact Fol.askRoom _
   | exact Fol.load _
   | exact Fol.store _ _
   | exact Fol.loadCells _ _
   | exact Fol.storeCells _ _ _
   | (refine Fol.bind ?_ (fun _ => ?_))
   | split
   | dsimp only)
theorem Fol.intDiv (op : BinOp) (k : IntKind) (x y : Int) : Fol P S (Op.intDiv op k x y) := by
 unfold Op.intDiv
 repeat' (first
   | assumption
   | exact Fol.pure _
   | exact Fol.stuck _
   | exact Fol.goPanic _
   | (refine Fol.unsupported ?_; exact True.intro)
   | exact Fol.runtimePanic hT _
   | exact Fol.boundsPanic hT _ _ _ _
   | exact Fol.underlying hT _
   | exact Fol.typeInfo hT _
   | exact Fol.sizeOf hT _
   | exact Fol.isAgg hT _
   | exact Fol.zeroValue hT _
   | exact Fol.elemOf hT _
   | exact Fol.part hT _ _ _
   | exact Fol.asIntOf _
   | exact Fol.asInt _
   | exact Fol.asBool _
   | exact Fol.asAgg _
   | exact Fol.asAddr hT _
   | exact Fol.sureAddr _
   | exact Fol.loadVar hT _ _
   | exact Fol.storeVar hT _ _ _
   | exact Fol.newRow _ _
   | exact Fol.newVar _ _
   | exact Fol.choose _
   | exact Fol.askRoom _
   | exact Fol.load _
   | exact Fol.store _ _
   | exact Fol.loadCells _ _
   | exact Fol.storeCells _ _ _
   | (refine Fol.bind ?_ (fun _ => ?_))
   | split
   | dsimp only)
omit hT in
theorem Fol.intBits (op : BinOp) (k : IntKind) (x y : Int) : Fol P S (Op.intBits op k x y) := by
 unfold Op.intBits
 repeat' (first
   | assumption
   | exact Fol.pure _
   | exact Fol.stuck _
   | exact Fol.goPanic _
   | (refine Fol.unsupported ?_; exact True.intro)
   | exact Fol.runtimePanic hT _
   | exact Fol.boundsPanic hT _ _ _ _
   | exact Fol.underlying hT _
   | exact Fol.typeInfo hT _
   | exact Fol.sizeOf hT _
   | exact Fol.isAgg hT _
   | exact Fol.zeroValue hT _
   | exact Fol.elemOf hT _
   | exact Fol.part hT _ _ _
   | exact Fol.asIntOf _
   | exact Fol.asInt _
   | exact Fol.asBool _
   | exact Fol.asAgg _
   | exact Fol.asAddr hT _
   | exact Fol.sureAddr _
   | exact Fol.loadVar hT _ _
   | exact Fol.storeVar hT _ _ _
   | exact Fol.newRow _ _
   | exact Fol.newVar _ _
   | exact Fol.choose _
   | exact Fol.askRoom _
   | exact Fol.load _
   | exact Fol.store _ _
   | exact Fol.loadCells _ _
   | exact Fol.storeCells _ _ _
   | (refine Fol.bind ?_ (fun _ => ?_))
   | split
   | dsimp only)
omit hT in
theorem Fol.intCmp (op : BinOp) (x y : Int) : Fol P S (Op.intCmp op x y) := by
 unfold Op.intCmp
 repeat' (first
   | assumption
   | exact Fol.pure _
   | exact Fol.stuck _
   | exact Fol.goPanic _
   | (refine Fol.unsupported ?_; exact True.intro)
   | exact Fol.runtimePanic hT _
   | exact Fol.boundsPanic hT _ _ _ _
   | exact Fol.underlying hT _
   | exact Fol.typeInfo hT _
   | exact Fol.sizeOf hT _
   | exact Fol.isAgg hT _
   | exact Fol.zeroValue hT _
   | exact Fol.elemOf hT _
   | exact Fol.part hT _ _ _
   | exact Fol.asIntOf _
   | exact Fol.asInt _
   | exact Fol.asBool _
   | exact Fol.asAgg _
   | exact Fol.asAddr hT _
   | exact Fol.sureAddr _
   | exact Fol.loadVar hT _ _
   | exact Fol.storeVar hT _ _ _
   | exact Fol.newRow _ _
   | exact Fol.newVar _ _
   | exact Fol.choose _
   | exact Fol.askRoom _
   | exact Fol.load _
   | exact Fol.store _ _
   | exact Fol.loadCells _ _
   | exact Fol.storeCells _ _ _
   | (refine Fol.bind ?_ (fun _ => ?_))
   | split
   | dsimp only)
omit hT in
theorem Fol.floatArith (op : BinOp) (k : FloatKind) (x y : Nat) : Fol P S (Op.floatArith op k x y) := by
 unfold Op.floatArith
 repeat' (first
   | assumption
   | exact Fol.pure _
   | exact Fol.stuck _
   | exact Fol.goPanic _
   | (refine Fol.unsupported ?_; exact True.intro)
   | exact Fol.runtimePanic hT _
   | exact Fol.boundsPanic hT _ _ _ _
   | exact Fol.underlying hT _
   | exact Fol.typeInfo hT _
   | exact Fol.sizeOf hT _
   | exact Fol.isAgg hT _
   | exact Fol.zeroValue hT _
   | exact Fol.elemOf hT _
   | exact Fol.part hT _ _ _
   | exact Fol.asIntOf _
   | exact Fol.asInt _
   | exact Fol.asBool _
   | exact Fol.asAgg _
   | exact Fol.asAddr hT _
   | exact Fol.sureAddr _
   | exact Fol.loadVar hT _ _
   | exact Fol.storeVar hT _ _ _
   | exact Fol.newRow _ _
   | exact Fol.newVar _ _
   | exact Fol.choose _
   | exact Fol.askRoom _
   | exact Fol.load _
   | exact Fol.store _ _
   | exact Fol.loadCells _ _
   | exact Fol.storeCells _ _ _
   | (refine Fol.bind ?_ (fun _ => ?_))
   | split
   | dsimp only)
omit hT in
theorem Fol.floatCmp (op : BinOp) (k : FloatKind) (x y : Nat) : Fol P S (Op.floatCmp op k x y) := by
 unfold Op.floatCmp
 repeat' (first
   | assumption
   | exact Fol.pure _
   | exact Fol.stuck _
   | exact Fol.goPanic _
   | (refine Fol.unsupported ?_; exact True.intro)
   | exact Fol.runtimePanic hT _
   | exact Fol.boundsPanic hT _ _ _ _
   | exact Fol.underlying hT _
   | exact Fol.typeInfo hT _
   | exact Fol.sizeOf hT _
   | exact Fol.isAgg hT _
   | exact Fol.zeroValue hT _
   | exact Fol.elemOf hT _
   | exact Fol.part hT _ _ _
   | exact Fol.asIntOf _
   | exact Fol.asInt _
   | exact Fol.asBool _
   | exact Fol.asAgg _
   | exact Fol.asAddr hT _
   | exact Fol.sureAddr _
   | exact Fol.loadVar hT _ _
   | exact Fol.storeVar hT _ _ _
   | exact Fol.newRow _ _
   | exact Fol.newVar _ _
   | exact Fol.choose _
   | exact Fol.askRoom _
   | exact Fol.load _
   | exact Fol.store _ _
   | exact Fol.loadCells _ _
   | exact Fol.storeCells _ _ _
   | (refine Fol.bind ?_ (fun _ => ?_))
   | split
   | dsimp only)
omit hT in
theorem Fol.stringOp (op : BinOp) (x y : ByteArray) : Fol P S (Op.stringOp op x y) := by
 unfold Op.stringOp
 repeat' (first
   | assumption
   | exact Fol.pure _
   | exact Fol.stuck _
   | exact Fol.goPanic _
   | (refine Fol.unsupported ?_; exact True.intro)
   | exact Fol.runtimePanic hT _
   | exact Fol.boundsPanic hT _ _ _ _
   | exact Fol.underlying hT _
   | exact Fol.typeInfo hT _
   | exact Fol.sizeOf hT _
   | exact Fol.isAgg hT _
   | exact Fol.zeroValue hT _
   | exact Fol.elemOf hT _
   | exact Fol.part hT _ _ _
   | exact Fol.asIntOf _
   | exact Fol.asInt _
   | exact Fol.asBool _
   | exact Fol.asAgg _
   | exact Fol.asAddr hT _
   | exact Fol.sureAddr _
   | exact Fol.loadVar hT _ _
   | exact Fol.storeVar hT _ _ _
   | exact Fol.newRow _ _
   | exact Fol.newVar _ _
   | exact Fol.choose _
   | exact Fol.askRoom _
   | exact Fol.load _
   | exact Fol.store _ _
   | exact Fol.loadCells _ _
   | exact Fol.storeCells _ _ _
   | (refine Fol.bind ?_ (fun _ => ?_))
   | split
   | dsimp only)
omit hT in
theorem Fol.unaryNot (x : Value) : Fol P S (Op.unary .not x) := by
 unfold Op.unary
 repeat' (first
   | assumption
   | exact Fol.pure _
   | exact Fol.stuck _
   | exact Fol.goPanic _
   | (refine Fol.unsupported ?_; exact True.intro)
   | exact Fol.runtimePanic hT _
   | exact Fol.boundsPanic hT _ _ _ _
   | exact Fol.underlying hT _
   | exact Fol.typeInfo hT _
   | exact Fol.sizeOf hT _
   | exact Fol.isAgg hT _
   | exact Fol.zeroValue hT _
   | exact Fol.elemOf hT _
   | exact Fol.part hT _ _ _
   | exact Fol.asIntOf _
   | exact Fol.asInt _
   | exact Fol.asBool _
   | exact Fol.asAgg _
   | exact Fol.asAddr hT _
   | exact Fol.sureAddr _
   | exact Fol.loadVar hT _ _
   | exact Fol.storeVar hT _ _ _
   | exact Fol.newRow _ _
   | exact Fol.newVar _ _
   | exact Fol.choose _
   | exact Fol.askRoom _
   | exact Fol.load _
   | exact Fol.store _ _
   | exact Fol.loadCells _ _
   | exact Fol.storeCells _ _ _
   | (refine Fol.bind ?_ (fun _ => ?_))
   | split
   | dsimp only)
omit hT in
theorem Fol.floatToInt (k : FloatKind) (x : Nat) (d : IntKind) : Fol P S (Conv.floatToInt k x d) := by
 unfold Conv.floatToInt
 repeat' (first
   | assumption
   | exact Fol.pure _
   | exact Fol.stuck _
   | exact Fol.goPanic _
   | (refine Fol.unsupported ?_; exact True.intro)
   | exact Fol.runtimePanic hT _
   | exact Fol.boundsPanic hT _ _ _ _
   | exact Fol.underlying hT _
   | exact Fol.typeInfo hT _
   | exact Fol.sizeOf hT _
   | exact Fol.isAgg hT _
   | exact Fol.zeroValue hT _
   | exact Fol.elemOf hT _
   | exact Fol.part hT _ _ _
   | exact Fol.asIntOf _
   | exact Fol.asInt _
   | exact Fol.asBool _
   | exact Fol.asAgg _
   | exact Fol.asAddr hT _
   | exact Fol.sureAddr _
   | exact Fol.loadVar hT _ _
   | exact Fol.storeVar hT _ _ _
   | exact Fol.newRow _ _
   | exact Fol.newVar _ _
   | exact Fol.choose _
   | exact Fol.askRoom _
   | exact Fol.load _
   | exact Fol.store _ _
   | exact Fol.loadCells _ _
   | exact Fol.storeCells _ _ _
   | (refine Fol.bind ?_ (fun _ => ?_))
   | split
   | dsimp only)
omit hT in
theorem Fol.max2 (x y : Value) : Fol P S (Builtin.max2 x y) := by
 unfold Builtin.max2
 repeat' (first
   | assumption
   | exact Fol.pure _
   | exact Fol.stuck _
   | exact Fol.goPanic _
   | (refine Fol.unsupported ?_; exact True.intro)
   | exact Fol.runtimePanic hT _
   | exact Fol.boundsPanic hT _ _ _ _
   | exact Fol.underlying hT _
   | exact Fol.typeInfo hT _
   | exact Fol.sizeOf hT _
   | exact Fol.isAgg hT _
   | exact Fol.zeroValue hT _
   | exact Fol.elemOf hT _
   | exact Fol.part hT _ _ _
   | exact Fol.asIntOf _
   | exact Fol.asInt _
   | exact Fol.asBool _
   | exact Fol.asAgg _
   | exact Fol.asAddr hT _
   | exact Fol.sureAddr _
   | exact Fol.loadVar hT _ _
   | exact Fol.storeVar hT _ _ _
   | exact Fol.newRow _ _
   | exact Fol.newVar _ _
   | exact Fol.choose _
   | exact Fol.askRoom _
   | exact Fol.load _
   | exact Fol.store _ _
   | exact Fol.loadCells _ _
   | exact Fol.storeCells _ _ _
   | exact Fol.stringOp _ _ _
   | (refine Fol.bind ?_ (fun _ => ?_))
   | split
   | dsimp only)
omit hT in
theorem Fol.min2 (x y : Value) : Fol P S (Builtin.min2 x y) := by
 unfold Builtin.min2
 repeat' (first
   | assumption
   | exact Fol.pure _
   | exact Fol.stuck _
   | exact Fol.goPanic _
   | (refine Fol.unsupported ?_; exact True.intro)
   | exact Fol.runtimePanic hT _
   | exact Fol.boundsPanic hT _ _ _ _
   | exact Fol.underlying hT _
   | exact Fol.typeInfo hT _
   | exact Fol.sizeOf hT _
   | exact Fol.isAgg hT _
   | exact Fol.zeroValue hT _
   | exact Fol.elemOf hT _
   | exact Fol.part hT _ _ _
   | exact Fol.asIntOf _
   | exact Fol.asInt _
   | exact Fol.asBool _
   | exact Fol.asAgg _
   | exact Fol.asAddr hT _
   | exact Fol.sureAddr _
   | exact Fol.loadVar hT _ _
   | exact Fol.storeVar hT _ _ _
   | exact Fol.newRow _ _
   | exact Fol.newVar _ _
   | exact Fol.choose _
   | exact Fol.askRoom _
   | exact Fol.load _
   | exact Fol.store _ _
   | exact Fol.loadCells _ _
   | exact Fol.storeCells _ _ _
   | exact Fol.stringOp _ _ _
   | (refine Fol.bind ?_ (fun _ => ?_))
   | split
   | dsimp only)
omit hT in
theorem Fol.max_ (a : Array TypeId) (t : TypeId) (args : Array Value) : Fol P S (Builtin.max_ a t args) := by
 unfold Builtin.max_
 split
 · exact Fol.stuck _
 · exact Fol.foldlM _ (fun _ _ => Fol.max2 _ _) _ _
omit hT in
theorem Fol.min_ (a : Array TypeId) (t : TypeId) (args : Array Value) : Fol P S (Builtin.min_ a t args) := by
 unfold Builtin.min_
 split
 · exact Fol.stuck _
 · exact Fol.foldlM _ (fun _ _ => Fol.min2 _ _) _ _
end
end Go.Proofs.Ytcoppnbjpncdcaa.Sim
end
section
namespace Go.Proofs.Ytcoppnbjpncdcaa.Sim
open Go
section
variable {P S : Program} {α β : Type} (hT : S.toTables = P.toTables)
include hT
structure Dead (S : Program) {α : Type} (s : Sem α) : Prop where
 no : ∀ (v : World) (es : Array Event) (a : α) (v' : World) (es' : Array Event), SW v → s.runT S v es ≠ (.ok a v', es')
 calm : ∀ (v : World) (es : Array Event) (h : Halt) (v' : World) (es' : Array Event), SW v → s.runT S v es = (.halt h v', es') → calmHalt h
omit hT in
theorem Dead.fol {s : Sem α} (h : Dead S s) : Fol P S s :=
 ⟨fun _ _ v es₀ _ a v' es' hr hx _ => absurd hx (h.no v es₀ a v' es' hr.sw), fun v es a v' es' hs hx => absurd hx (h.no v es a v' es' hs), h.calm⟩
omit hT in
theorem Dead.halt {h : Halt} (hc : calmHalt h) : Dead S (Sem.halt h : Sem α) :=
 ⟨fun v es a v' es' _ hx => by simp [Sem.runT, -Sem.runT_eq] at hx, fun v es x v' es' _ hx => by
   simp only [Sem.runT, Prod.mk.injEq, Result.halt.injEq] at hx
   exact hx.1.1 ▸ hc⟩
omit hT in
theorem Dead.bind {s : Sem α} {f : α → Sem β} (hs : Fol P S s) (hf : ∀ a, Dead S (f a)) : Dead S (s >>= f) := by
 refine ⟨fun v es b v' es' hsw h => ?_, fun v es x v' es' hsw h => ?_⟩
 all_goals rw [bind_runT] at h
 · cases hx : s.runT S v es with
   | mk r es1 =>
     rw [hx] at h
     cases r with
     | halt y v1 => simp at h
     | ok a v1 =>
       simp only at h
       obtain ⟨_, sw1, _⟩ := hs.mono v es a v1 es1 hsw hx
       exact (hf a).no v1 es1 b v' es' sw1 h
 · cases hx : s.runT S v es with
   | mk r es1 =>
     rw [hx] at h
     cases r with
     | halt y v1 =>
       simp only [Prod.mk.injEq, Result.halt.injEq] at h
       obtain ⟨⟨rfl, rfl⟩, rfl⟩ := h
       exact hs.calm v es y v1 es1 hsw hx
     | ok a v1 =>
       simp only at h
       obtain ⟨_, sw1, _⟩ := hs.mono v es a v1 es1 hsw hx
       exact (hf a).calm v1 es1 x v' es' sw1 h
omit hT in
theorem Dead.thenAny {s : Sem α} {f : α → Sem β} (hs : Dead S s) : Dead S (s >>= f) := by
 refine ⟨fun v es b v' es' hsw h => ?_, fun v es x v' es' hsw h => ?_⟩
 all_goals rw [bind_runT] at h
 · cases hx : s.runT S v es with
   | mk r es1 =>
     rw [hx] at h
     cases r with
     | halt y v1 => simp at h
     | ok a v1 => exact hs.no v es a v1 es1 hsw hx
 · cases hx : s.runT S v es with
   | mk r es1 =>
     rw [hx] at h
     cases r with
     | halt y v1 =>
       simp only [Prod.mk.injEq, Result.halt.injEq] at h
       obtain ⟨⟨rfl, rfl⟩, rfl⟩ := h
       exact hs.calm v es y v1 es1 hsw hx
     | ok a v1 => exact absurd hx (hs.no v es a v1 es1 hsw)
omit hT in
theorem Dead.unsupported {u : Unsupported} (h : calmHalt (.unsupported u)) : Dead S (Go.unsupported u : Sem α) := Dead.halt h
omit hT in
theorem shape_runT {p : Program} (r : Nat) (f : Option (TypeId × Nat) → Sem α) (w : World) (es : Array Event) : (Go.shape r >>= f).runT p w es = (f (w.shape? r)).runT p w es := by
 rw [bind_runT]; rfl
omit hT in
theorem Rel.shape {J : Nat → Prop} {w v : World} (h : Rel J w v) {r : Nat} {x : TypeId × Nat} (hs : v.shape? r = some x) : w.shape? r = some x := by
 unfold World.shape? at hs ⊢
 cases ho : v.heap[r]? with
 | none => rw [ho] at hs; cases hs
 | some o =>
   rw [ho] at hs
   rcases h.blk _ _ ho with ⟨_, hw, _⟩ | ⟨_, rfl, _⟩ | ⟨_, rfl⟩
   · rw [hw]; exact hs
   · cases hs
   · cases hs
omit hT in
theorem Fol.shape_bind {r : Nat} {f : Option (TypeId × Nat) → Sem α} (h0 : Dead S (f none)) (h1 : ∀ x, Fol P S (f (some x))) : Fol P S (Go.shape r >>= f) := by
 refine ⟨fun J w v es₀ es a v' es' hr h ht => ?_, fun v es a v' es' hs h => ?_, fun v es x v' es' hs h => ?_⟩
 all_goals rw [shape_runT] at h
 · cases hx : v.shape? r with
   | none => rw [hx] at h; exact absurd h (h0.no v es₀ a v' es' hr.sw)
   | some x =>
     rw [hx] at h
     obtain ⟨w', es'', h2, h3⟩ := (h1 x).go J w v es₀ es a v' es' hr h ht
     exact ⟨w', es'', by rw [shape_runT, hr.shape hx]; exact h2, h3⟩
 · cases hx : v.shape? r with
   | none => rw [hx] at h; exact absurd h (h0.no v es a v' es' hs)
   | some x => rw [hx] at h; exact (h1 x).mono v es a v' es' hs h
 · cases hx : v.shape? r with
   | none => rw [hx] at h; exact h0.calm v es _ v' es' hs h
   | some y => rw [hx] at h; exact (h1 y).calm v es _ v' es' hs h
omit hT in
theorem viewAt_sw {p : Program} {v : World} (hs : SW v) (r : Nat) (es : Array Event) :
   (∃ es', (Go.viewAt r).runT p v es = (.ok none v, es') ∧ v.heap[r]? ≠ some weird) ∨ (∃ x es', (Go.viewAt r).runT p v es = (.ok (some x) v, es') ∧ v.heap[r]? = some weird) ∨
   (∃ m es', (Go.viewAt r).runT p v es = (.halt (.stuck m) v, es')) := by
 have run : ∀ s, v.shape? r = s → (Go.viewAt r).runT p v es = (if s.isSome then (Pure.pure none : Sem (Option (Addr × TypeId))) else Go.getObj r >>= fun | .view a t => Pure.pure (some (a, t)) | _ => Pure.pure none).runT p v es := by
   intro s hsh
   unfold Go.viewAt
   rw [shape_runT, hsh]
   rfl
 cases ho : v.heap[r]? with
 | none =>
   rw [run none (by simp [World.shape?, ho])]
   refine .inr (.inr ⟨"getObj: no such block", es, ?_⟩)
   rw [if_neg (by simp), bind_runT]
   simp only [Go.getObj, Sem.runT, ho]
 | some o =>
   rcases hs _ _ ho with (⟨c, t, fr, rfl⟩ | ⟨a, l, rfl⟩ | rfl) | rfl | rfl
   · rw [run (some (t, c.size)) (by simp [World.shape?, ho])]
     exact .inl ⟨_, rfl, by simp [weird]⟩
   · rw [run none (by simp [World.shape?, ho]), if_neg (by simp), bind_runT]
     simp only [Go.getObj, Sem.runT, ho]
     exact .inl ⟨_, rfl, by simp [weird]⟩
   · rw [run none (by simp [World.shape?, ho, husk]), if_neg (by simp), bind_runT]
     simp only [Go.getObj, Sem.runT, ho, husk]
     exact .inl ⟨_, rfl, by simp [weird]⟩
   · rw [run none (by simp [World.shape?, ho, husk]), if_neg (by simp), bind_runT]
     simp only [Go.getObj, Sem.runT, ho, husk]
     exact .inl ⟨_, rfl, by simp [weird]⟩
   · rw [run none (by simp [World.shape?, ho, weird]), if_neg (by simp), bind_runT]
     simp only [Go.getObj, Sem.runT, ho, weird]
     exact .inr (.inl ⟨_, _, rfl, trivial⟩)
omit hT in
theorem viewAt_true {p : Program} {J : Nat → Prop} {w v : World} (hr : Rel J w v) {r : Nat} {o : Obj} (ho : v.heap[r]? = some o) (hne : o ≠ weird) (es : Array Event) :
   ∃ new : Array Event, (Go.viewAt r).runT p w es = (.ok none w, es ++ new) ∧ ∀ e ∈ new, EvOk J w.heap.size e := by
 have hlt : r < w.heap.size := by rw [← hr.size]; exact (Array.getElem?_eq_some_iff.1 ho).1
 have run : ∀ s, w.shape? r = s → (Go.viewAt r).runT p w es = (if s.isSome then (Pure.pure none : Sem (Option (Addr × TypeId))) else Go.getObj r >>= fun | .view a t => Pure.pure (some (a, t)) | _ => Pure.pure none).runT p w es := by
   intro s hsh
   unfold Go.viewAt
   rw [shape_runT, hsh]
   rfl
 have cells : ∀ c t fr, w.heap[r]? = some (.cells c t fr) → (Go.viewAt r).runT p w es = (.ok none w, es ++ #[]) := by
   intro c t fr hw
   rw [run (some (t, c.size)) (by simp [World.shape?, hw])]
   simp only [Option.isSome, if_true, Array.append_empty]
   rfl
 rcases hr.blk _ _ ho with ⟨_, hw, ⟨c, t, fr, rfl⟩ | ⟨a, l, rfl⟩ | rfl⟩ | ⟨_, rfl, hw | ⟨c, t, hw⟩⟩ | ⟨_, rfl⟩
 · exact ⟨#[], cells _ _ _ hw, by simp⟩
 · refine ⟨#[⟨.obj r, false, false⟩], ?_, fun e he => .inr (.inl ⟨r, by simpa using he, hlt⟩)⟩
   rw [run none (by simp [World.shape?, hw]), if_neg (by simp), bind_runT]
   simp only [Go.getObj, Sem.runT, hw, Obj.isChan]
   rfl
 · refine ⟨#[⟨.obj r, false, false⟩], ?_, fun e he => .inr (.inl ⟨r, by simpa using he, hlt⟩)⟩
   rw [run none (by simp [World.shape?, hw, husk]), if_neg (by simp), bind_runT]
   simp only [Go.getObj, Sem.runT, hw, husk, Obj.isChan]
   rfl
 · refine ⟨#[⟨.obj r, false, false⟩], ?_, fun e he => .inr (.inl ⟨r, by simpa using he, hlt⟩)⟩
   rw [run none (by simp [World.shape?, hw, husk]), if_neg (by simp), bind_runT]
   simp only [Go.getObj, Sem.runT, hw, husk, Obj.isChan]
   rfl
 · exact ⟨#[], cells _ _ _ hw, by simp⟩
 · exact absurd rfl hne
omit hT in
theorem Fol.viewAt_bind {r : Nat} {f : Option (Addr × TypeId) → Sem α} (h0 : Fol P S (f none)) (h1 : ∀ x, Dead S (f (some x))) : Fol P S (Go.viewAt r >>= f) := by
 refine ⟨fun J w v es₀ es a v' es' hr h ht => ?_, fun v es a v' es' hs h => ?_, fun v es x v' es' hs h => ?_⟩
 all_goals rw [bind_runT] at h
 · rcases viewAt_sw (p := S) hr.sw r es₀ with ⟨es1, hx, hne⟩ | ⟨x, es1, hx, _⟩ | ⟨m, es1, hx⟩
   · rw [hx] at h
     cases ho : v.heap[r]? with
     | none =>
       exfalso
       unfold Go.viewAt at hx
       have hsh : v.shape? r = none := by simp [World.shape?, ho]
       rw [shape_runT, hsh, if_neg (by simp), bind_runT] at hx
       simp [Go.getObj, Sem.runT, ho, -Sem.runT_eq] at hx
     | some o =>
       obtain ⟨new, h2, h3⟩ := viewAt_true (p := P) hr ho (fun e => hne (by rw [ho, e])) es
       obtain ⟨w', es'', h4, A⟩ := h0.go J w v es1 (es ++ new) a v' es' hr h ht
       refine ⟨w', es'', by rw [bind_runT, h2]; exact h4, ⟨A.rel, A.tapeS, A.tapeP, A.dr, A.os, A.out, A.keep, ?_, A.size⟩⟩
       obtain ⟨n2, e2, o2⟩ := A.evs
       exact ⟨new ++ n2, by rw [e2, Array.append_assoc], fun e he => (Array.mem_append.1 he).elim (fun x => (h3 e x).mono A.size) (o2 e)⟩
   · rw [hx] at h; exact absurd h ((h1 x).no v es1 a v' es' hr.sw)
   · rw [hx] at h; simp at h
 · rcases viewAt_sw (p := S) hs r es with ⟨es1, hx, hne⟩ | ⟨x, es1, hx, _⟩ | ⟨m, es1, hx⟩
   · rw [hx] at h; exact h0.mono v es1 a v' es' hs h
   · rw [hx] at h; exact absurd h ((h1 x).no v es1 a v' es' hs)
   · rw [hx] at h; simp at h
 · rcases viewAt_sw (p := S) hs r es with ⟨es1, hx, hne⟩ | ⟨y, es1, hx, _⟩ | ⟨m, es1, hx⟩
   · rw [hx] at h; exact h0.calm v es1 _ v' es' hs h
   · rw [hx] at h; exact (h1 y).calm v es1 _ v' es' hs h
   · rw [hx] at h
     simp only [Prod.mk.injEq, Result.halt.injEq] at h
     exact h.1.1 ▸ trivial
omit hT in
theorem Fol.noView (a : Addr) : Fol P S (Go.noView a) := by
 unfold Go.noView
 refine Fol.viewAt_bind ?_ (fun x => ?_)
 · exact Fol.pure _
 · exact Dead.halt trivial
theorem cellsOf_eq (t : TypeId) : P.cellsOf t = S.cellsOf t := by unfold Program.cellsOf; rw [info_eq hT]
theorem bytesOf_eq (t : TypeId) : P.bytesOf t = S.bytesOf t := by unfold Program.bytesOf; rw [info_eq hT]
theorem depth_eq : P.depth = S.depth := by unfold Program.depth; rw [← hT]
theorem byteOfCell_eq : ∀ (d : Nat) (t : TypeId) (o : Nat), byteOfCell P d t o = byteOfCell S d t o
 | 0, _, _ => rfl
 | d + 1, t, o => by
   unfold byteOfCell
   rw [under_eq hT]
   have : byteOfCell P d = byteOfCell S d := funext fun t => funext fun o => byteOfCell_eq d t o
   simp only [this, cellsOf_eq hT, bytesOf_eq hT]
theorem cellOfByte_eq : ∀ (d : Nat) (t : TypeId) (o : Nat), cellOfByte P d t o = cellOfByte S d t o
 | 0, _, _ => rfl
 | d + 1, t, o => by
   unfold cellOfByte
   rw [under_eq hT]
   have : cellOfByte P d = cellOfByte S d := funext fun t => funext fun o => cellOfByte_eq d t o
   simp only [this, cellsOf_eq hT, bytesOf_eq hT]
theorem cellAtBytes_eq (d : Nat) (e : TypeId) (c o : Nat) (b : Int) : cellAtBytes P d e c o b = cellAtBytes S d e c o b := by
 unfold cellAtBytes
 have h1 : byteOfCell P = byteOfCell S := funext fun d => funext fun t => funext fun o => byteOfCell_eq hT d t o
 have h2 : cellOfByte P = cellOfByte S := funext fun d => funext fun t => funext fun o => cellOfByte_eq hT d t o
 simp only [h1, h2, cellsOf_eq hT, bytesOf_eq hT]
theorem Fol.unsafeAdd (t : TypeId) (q : Option Addr) (y : Value) : Fol P S (Builtin.unsafeAdd_ #[] t #[.pointer q, y]) := by
 unfold Builtin.unsafeAdd_
 refine Fol.bind (Fol.asInt y) fun n => ?_
 dsimp only
 split
 · cases q with
   | none => exact Dead.fol (Dead.thenAny (Dead.unsupported trivial))
   | some a =>
     refine Fol.viewAt_bind ?_ (fun x => ?_)
     · exact Fol.pure _
     · exact Dead.thenAny (Dead.unsupported trivial)
 · split
   · refine Fol.bind (Fol.unsupported trivial) fun _ => ?_
     cases q with
     | none => exact Fol.unsupported trivial
     | some a =>
       refine Fol.shape_bind (Dead.unsupported trivial) (fun x => ?_)
       refine Fol.ofProgram (by simp only [cellAtBytes_eq hT, cellsOf_eq hT, depth_eq hT]) ?_
       split
       · exact Fol.pure _
       · exact Fol.unsupported trivial
   · cases q with
     | none => exact Fol.unsupported trivial
     | some a =>
       refine Fol.shape_bind (Dead.unsupported trivial) (fun x => ?_)
       refine Fol.ofProgram (by simp only [cellAtBytes_eq hT, cellsOf_eq hT, depth_eq hT]) ?_
       split
       · exact Fol.pure _
       · exact Fol.unsupported trivial
theorem Fol.byteOf (a : Addr) : Fol P S (Go.byteOf a) := by
 unfold Go.byteOf
 split
 · exact Fol.pure _
 · refine Fol.ofProgram (by simp only [cellsOf_eq hT, bytesOf_eq hT, byteOfCell_eq hT, depth_eq hT]) ?_
   refine Fol.bind (Fol.noView a) fun _ => Fol.shape_bind ?_ (fun x => ?_)
   · exact Dead.halt trivial
   · dsimp only
     split
     · exact Fol.pure _
     · split
       · exact Fol.pure _
       · exact Fol.stuck _
theorem Fol.addrMod (k : IntKind) (a : Addr) (n : Int) : Fol P S (Op.addrMod k a n) := by
 unfold Op.addrMod
 refine Fol.shape_bind (Dead.unsupported trivial) (fun x => ?_)
 repeat' (first
   | assumption
   | exact Fol.pure _
   | exact Fol.stuck _
   | exact Fol.goPanic _
   | (refine Fol.unsupported ?_; exact True.intro)
   | exact Fol.runtimePanic hT _
   | exact Fol.boundsPanic hT _ _ _ _
   | exact Fol.underlying hT _
   | exact Fol.typeInfo hT _
   | exact Fol.sizeOf hT _
   | exact Fol.isAgg hT _
   | exact Fol.zeroValue hT _
   | exact Fol.elemOf hT _
   | exact Fol.part hT _ _ _
   | exact Fol.asIntOf _
   | exact Fol.asInt _
   | exact Fol.asBool _
   | exact Fol.asAgg _
   | exact Fol.asAddr hT _
   | exact Fol.sureAddr _
   | exact Fol.loadVar hT _ _
   | exact Fol.storeVar hT _ _ _
   | exact Fol.newRow _ _
   | exact Fol.newVar _ _
   | exact Fol.choose _
   | exact Fol.askRoom _
   | exact Fol.load _
   | exact Fol.store _ _
   | exact Fol.loadCells _ _
   | exact Fol.storeCells _ _ _
   | exact Fol.byteOf hT _
   | (refine Fol.bind ?_ (fun _ => ?_))
   | split
   | dsimp only)
omit hT in
theorem behind_ok {J : Nat → Prop} {w v : World} (hr : Rel J w v) {n : Addr} (hne : v.heap[n.block]? ≠ some weird) {es₀ es₀' : Array Event} {x : Addr × Bool} {v' : World} (h : (Go.behindNumber n).runT S v es₀ = (.ok x v', es₀')) (es : Array Event) :
   v' = v ∧ ∃ new : Array Event, (Go.behindNumber n).runT P w es = (.ok x w, es ++ new) ∧ ∀ e ∈ new, EvOk J w.heap.size e := by
 have run : ∀ (p : Program) (u : World) (es : Array Event) s, u.shape? n.block = s → (Go.behindNumber n).runT p u es =
     ((if s.isSome then (Pure.pure none : Sem (Option (Addr × Bool))) else Go.getObj n.block >>= fun | .number a l => Pure.pure (some (a, l)) | _ => Pure.pure none) >>= fun o => Pure.pure (o.getD (n, false))).runT p u es := by
   intro p u es s hsh
   unfold Go.behindNumber Go.numberAt
   rw [bind_runT, shape_runT, hsh, bind_runT]
   rfl
 cases ho : v.heap[n.block]? with
 | none =>
   rw [run S v es₀ none (by simp [World.shape?, ho]), if_neg (by simp), bind_runT, bind_runT] at h
   simp [Go.getObj, Sem.runT, ho, -Sem.runT_eq] at h
 | some o =>
   have hlt : n.block < w.heap.size := by rw [← hr.size]; exact (Array.getElem?_eq_some_iff.1 ho).1
   have cells : ∀ c t fr, w.heap[n.block]? = some (.cells c t fr) → (Go.behindNumber n).runT P w es = (.ok (n, false) w, es ++ #[]) := by
     intro c t fr hw
     rw [run P w es (some (t, c.size)) (by simp [World.shape?, hw])]
     simp only [Option.isSome_some, if_true, Array.append_empty]
     rfl
   rcases hr.blk _ _ ho with ⟨_, hw, ⟨c, t, fr, rfl⟩ | ⟨a, l, rfl⟩ | rfl⟩ | ⟨_, rfl, hx⟩ | ⟨_, rfl⟩
   · rw [run S v es₀ (some (t, c.size)) (by simp [World.shape?, ho])] at h
     simp only [Option.isSome_some, if_true] at h
     rw [bind_runT] at h
     have h' : Result.ok (n, false) v = Result.ok x v' := (Prod.mk.inj h).1
     simp only [Result.ok.injEq] at h'
     obtain ⟨rfl, rfl⟩ := h'
     exact ⟨rfl, #[], cells _ _ _ hw, by simp⟩
   · rw [run S v es₀ none (by simp [World.shape?, ho]), if_neg (by simp), bind_runT, bind_runT] at h
     simp only [Go.getObj, Sem.runT, ho] at h
     have h' : Result.ok (a, l) v = Result.ok x v' := (Prod.mk.inj h).1
     simp only [Result.ok.injEq] at h'
     obtain ⟨rfl, rfl⟩ := h'
     refine ⟨rfl, #[⟨.obj n.block, false, false⟩], ?_, fun e he => .inr (.inl ⟨n.block, by simpa using he, hlt⟩)⟩
     rw [run P w es none (by simp [World.shape?, hw]), if_neg (by simp), bind_runT, bind_runT]
     simp only [Go.getObj, Sem.runT, hw, Obj.isChan]
     rfl
   · rw [run S v es₀ none (by simp [World.shape?, ho, husk]), if_neg (by simp), bind_runT, bind_runT] at h
     simp only [Go.getObj, Sem.runT, ho, husk] at h
     have h' : Result.ok (n, false) v = Result.ok x v' := (Prod.mk.inj h).1
     simp only [Result.ok.injEq] at h'
     obtain ⟨rfl, rfl⟩ := h'
     refine ⟨rfl, #[⟨.obj n.block, false, false⟩], ?_, fun e he => .inr (.inl ⟨n.block, by simpa using he, hlt⟩)⟩
     rw [run P w es none (by simp [World.shape?, hw, husk]), if_neg (by simp), bind_runT, bind_runT]
     simp only [Go.getObj, Sem.runT, hw, husk, Obj.isChan]
     rfl
   · rw [run S v es₀ none (by simp [World.shape?, ho, husk]), if_neg (by simp), bind_runT, bind_runT] at h
     simp only [Go.getObj, Sem.runT, ho, husk] at h
     have h' : Result.ok (n, false) v = Result.ok x v' := (Prod.mk.inj h).1
     simp only [Result.ok.injEq] at h'
     obtain ⟨rfl, rfl⟩ := h'
     rcases hx with hw | ⟨c, t, hw⟩
     · refine ⟨rfl, #[⟨.obj n.block, false, false⟩], ?_, fun e he => .inr (.inl ⟨n.block, by simpa using he, hlt⟩)⟩
       rw [run P w es none (by simp [World.shape?, hw, husk]), if_neg (by simp), bind_runT, bind_runT]
       simp only [Go.getObj, Sem.runT, hw, husk, Obj.isChan]
       rfl
     · exact ⟨rfl, #[], cells _ _ _ hw, by simp⟩
   · exact absurd ho hne
end
end Go.Proofs.Ytcoppnbjpncdcaa.Sim
end
section
namespace Go.Proofs.Ytcoppnbjpncdcaa.Sim
open Go
section
variable {P S : Program} {α β : Type}
theorem behind_run (p : Program) (n : Addr) (u : World) (es : Array Event) (s : Option (TypeId × Nat)) (hsh : u.shape? n.block = s) : (Go.behindNumber n).runT p u es =
     ((if s.isSome then (Pure.pure none : Sem (Option (Addr × Bool))) else Go.getObj n.block >>= fun | .number a l => Pure.pure (some (a, l)) | _ => Pure.pure none) >>= fun o => Pure.pure (o.getD (n, false))).runT p u es := by
 unfold Go.behindNumber Go.numberAt
 rw [bind_runT, shape_runT, hsh, bind_runT]
 rfl
theorem behind_sw {v : World} (hs : SW v) (n : Addr) (es : Array Event) :
   (∃ x es', (Go.behindNumber n).runT S v es = (.ok x v, es') ∧ (v.heap[n.block]? = some weird → x = (n, false))) ∨ ∃ m, (Go.behindNumber n).runT S v es = (.halt (.stuck m) v, es) := by
 cases ho : v.heap[n.block]? with
 | none =>
   refine .inr ⟨"getObj: no such block", ?_⟩
   rw [behind_run S n v es none (by simp [World.shape?, ho]), if_neg (by simp), bind_runT, bind_runT]
   simp only [Go.getObj, Sem.runT, ho]
 | some o =>
   rcases hs _ _ ho with (⟨c, t, fr, rfl⟩ | ⟨a, l, rfl⟩ | rfl) | rfl | rfl
   · rw [behind_run S n v es (some (t, c.size)) (by simp [World.shape?, ho])]
     simp only [Option.isSome_some, if_true]
     exact .inl ⟨_, _, rfl, fun h => by simp [weird] at h⟩
   · rw [behind_run S n v es none (by simp [World.shape?, ho]), if_neg (by simp), bind_runT, bind_runT]
     simp only [Go.getObj, Sem.runT, ho]
     exact .inl ⟨_, _, rfl, fun h => by simp [weird] at h⟩
   · rw [behind_run S n v es none (by simp [World.shape?, ho, husk]), if_neg (by simp), bind_runT, bind_runT]
     simp only [Go.getObj, Sem.runT, ho, husk]
     exact .inl ⟨_, _, rfl, fun h => by simp [weird] at h⟩
   · rw [behind_run S n v es none (by simp [World.shape?, ho, husk]), if_neg (by simp), bind_runT, bind_runT]
     simp only [Go.getObj, Sem.runT, ho, husk]
     exact .inl ⟨_, _, rfl, fun h => by simp [weird] at h⟩
   · rw [behind_run S n v es none (by simp [World.shape?, ho, weird]), if_neg (by simp), bind_runT, bind_runT]
     simp only [Go.getObj, Sem.runT, ho, weird]
     exact .inl ⟨_, _, rfl, fun _ => rfl⟩
theorem noShape_weird {v : World} {r : Nat} (h : v.heap[r]? = some weird) : v.shape? r = none := by simp [World.shape?, h, weird]
theorem unsafeAdd_weird {v : World} (hs : SW v) {a : Addr} (h : v.heap[a.block]? = some weird) (t : TypeId) (y : Value) (es : Array Event) (x : Value) (v' : World) (es' : Array Event) :
   (Builtin.unsafeAdd_ #[] t #[.pointer (some a), y]).runT S v es ≠ (.ok x v', es') := by
 intro hx
 have hg : Builtin.unsafeAdd_ #[] t #[.pointer (some a), y] = (Go.asInt y >>= _) := rfl
 rw [hg, bind_runT] at hx
 have hi : ∀ n v₁ es₁, (Go.asInt y).runT S v es = (.ok n v₁, es₁) → v₁ = v := by
   intro n v₁ es₁ h1
   unfold Go.asInt Go.asIntOf at h1
   rw [bind_runT] at h1
   cases y with
   | int k m =>
     have h' : Result.ok m v = Result.ok n v₁ := (Prod.mk.inj h1).1
     simp only [Result.ok.injEq] at h'
     exact h'.2.symm
   | pointer q => cases q <;> simp [Go.unsupported, Go.stuck, Sem.runT, -Sem.runT_eq] at h1
   | _ => simp [Go.stuck, Sem.runT, -Sem.runT_eq] at h1
 cases h1 : (Go.asInt y).runT S v es with
 | mk r es₁ =>
   rw [h1] at hx
   cases r with
   | halt z v₁ => simp at hx
   | ok n v₁ =>
     obtain rfl := hi n v₁ es₁ h1
     simp only at hx
     split at hx
     · rw [bind_runT] at hx
       rcases viewAt_sw (p := S) hs a.block es₁ with ⟨es2, h2, hne⟩ | ⟨x2, es2, h2, _⟩ | ⟨m, es2, h2⟩
       · exact hne h
       · rw [h2] at hx
         simp only [Option.isSome_some, if_true] at hx
         rw [bind_runT] at hx
         simp [Go.unsupported, Sem.runT, -Sem.runT_eq] at hx
       · rw [h2] at hx; simp at hx
     · split at hx
       · rw [bind_runT] at hx; simp [Go.unsupported, Sem.runT, -Sem.runT_eq] at hx
       · rw [shape_runT, noShape_weird h] at hx; simp [Go.unsupported, Sem.runT, -Sem.runT_eq] at hx
theorem Fol.asNumber (a : Addr) (l : Bool) : Fol P S (Go.asNumber a l) := Fol.bind (Fol.newPlain (.inr (.inl ⟨a, l, rfl⟩))) fun _ => Fol.pure _
variable (hT : S.toTables = P.toTables)
include hT
theorem Fol.behind_move (n : Addr) (t : TypeId) (y : Value) : Fol P S (do
   let (a, lost) ← Go.behindNumber n
   match ← Builtin.unsafeAdd_ #[] t #[.pointer (some a), y] with
   | .pointer (some b) => Go.asNumber b lost
   | v => Pure.pure v) := by
 have rest : ∀ x : Addr × Bool, Fol P S (do
     match ← Builtin.unsafeAdd_ #[] t #[.pointer (some x.1), y] with
     | .pointer (some b) => Go.asNumber b x.2
     | v => Pure.pure v : Sem Value) := fun x => Fol.bind (Fol.unsafeAdd hT _ _ _) fun z => by
   split
   · exact Fol.asNumber _ _
   · exact Fol.pure _
 refine ⟨fun J w v es₀ es a v' es' hr h ht => ?_, fun v es a v' es' hs h => ?_, fun v es x v' es' hs h => ?_⟩
 all_goals rw [bind_runT] at h
 · rcases behind_sw (S := S) hr.sw n es₀ with ⟨x, es1, hx, hw⟩ | ⟨m, hx⟩
   · rw [hx] at h
     by_cases hwd : v.heap[n.block]? = some weird
     · obtain rfl := hw hwd
       simp only at h
       rw [bind_runT] at h
       cases hz : (Builtin.unsafeAdd_ #[] t #[.pointer (some n), y]).runT S v es1 with
       | mk r es2 =>
         cases r with
         | ok z v2 => exact absurd hz (unsafeAdd_weird hr.sw hwd t y es1 z v2 es2)
         | halt z v2 => rw [hz] at h; simp at h
     · obtain ⟨_, new, h2, h3⟩ := behind_ok (P := P) (S := S) hr hwd hx es
       obtain ⟨w', es'', h4, A⟩ := (rest x).go J w v es1 (es ++ new) a v' es' hr h ht
       refine ⟨w', es'', by rw [bind_runT, h2]; exact h4, ⟨A.rel, A.tapeS, A.tapeP, A.dr, A.os, A.out, A.keep, ?_, A.size⟩⟩
       obtain ⟨n2, e2, o2⟩ := A.evs
       exact ⟨new ++ n2, by rw [e2, Array.append_assoc], fun e he => (Array.mem_append.1 he).elim (fun x => (h3 e x).mono A.size) (o2 e)⟩
   · rw [hx] at h; simp at h
 · rcases behind_sw (S := S) hs n es with ⟨x, es1, hx, _⟩ | ⟨m, hx⟩
   · rw [hx] at h; exact (rest x).mono v es1 a v' es' hs h
   · rw [hx] at h; simp at h
 · rcases behind_sw (S := S) hs n es with ⟨y', es1, hx, _⟩ | ⟨m, hx⟩
   · rw [hx] at h; exact (rest y').calm v es1 _ v' es' hs h
   · rw [hx] at h
     simp only [Prod.mk.injEq, Result.halt.injEq] at h
     exact h.1.1 ▸ trivial
theorem Fol.movedNumber (t : TypeId) (x y : Value) : Fol P S (Go.movedNumber t x y) := by
 unfold Go.movedNumber
 refine Fol.bind (Fol.underlying hT t) fun d => ?_
 cases x with
 | pointer q =>
   cases q with
   | none =>
     dsimp only
     split
     · exact Dead.fol (Dead.thenAny (Dead.unsupported trivial))
     · exact Fol.unsafeAdd hT t none y
   | some n =>
     dsimp only
     split
     · exact Dead.fol (Dead.thenAny (Dead.unsupported trivial))
     · exact Fol.behind_move hT n t y
 | _ =>
   dsimp only
   split
   · exact Dead.fol (Dead.thenAny (Dead.unsupported trivial))
   · exact Fol.stuck _
structure Sane (S : Program) {α : Type} (s : Sem α) : Prop where
 mono : ∀ (v : World) (es : Array Event) (a : α) (v' : World) (es' : Array Event), SW v → s.runT S v es = (.ok a v', es') → SW v'
 calm : ∀ (v : World) (es : Array Event) (h : Halt) (v' : World) (es' : Array Event), SW v → s.runT S v es = (.halt h v', es') → calmHalt h
omit hT in
theorem Fol.sane {s : Sem α} (h : Fol P S s) : Sane S s := ⟨fun v es a v' es' hs hx => (h.mono v es a v' es' hs hx).2.1, h.calm⟩
omit hT in
theorem behind_sane (n : Addr) : Sane S (Go.behindNumber n) := by
 refine ⟨fun v es a v' es' hs h => ?_, fun v es x v' es' hs h => ?_⟩
 · rcases behind_sw (S := S) hs n es with ⟨x, es1, hx, _⟩ | ⟨m, hx⟩
   · rw [hx] at h
     simp only [Prod.mk.injEq, Result.ok.injEq] at h
     exact h.1.2 ▸ hs
   · rw [hx] at h; simp at h
 · rcases behind_sw (S := S) hs n es with ⟨x, es1, hx, _⟩ | ⟨m, hx⟩
   · rw [hx] at h; simp at h
   · rw [hx] at h
     simp only [Prod.mk.injEq, Result.halt.injEq] at h
     exact h.1.1 ▸ trivial
omit hT in
theorem Dead.after {s : Sem α} {f : α → Sem β} (hs : Sane S s) (hf : ∀ a, Dead S (f a)) : Dead S (s >>= f) := by
 refine ⟨fun v es b v' es' hsw h => ?_, fun v es x v' es' hsw h => ?_⟩
 all_goals rw [bind_runT] at h
 · cases hx : s.runT S v es with
   | mk r es1 =>
     rw [hx] at h
     cases r with
     | halt y v1 => simp at h
     | ok a v1 => exact (hf a).no v1 es1 b v' es' (hs.mono v es a v1 es1 hsw hx) h
 · cases hx : s.runT S v es with
   | mk r es1 =>
     rw [hx] at h
     cases r with
     | halt y v1 =>
       simp only [Prod.mk.injEq, Result.halt.injEq] at h
       obtain ⟨⟨rfl, rfl⟩, rfl⟩ := h
       exact hs.calm v es y v1 es1 hsw hx
     | ok a v1 => exact (hf a).calm v1 es1 x v' es' (hs.mono v es a v1 es1 hsw hx) h
omit hT in
theorem Dead.ofProgram {k : Program → Sem α} (hk : Dead S (k S)) : Dead S (Go.program >>= k) :=
 ⟨fun v es a v' es' hs h => hk.no v es a v' es' hs h, fun v es x v' es' hs h => hk.calm v es x v' es' hs h⟩
theorem eqGuardType_eq : ∀ (d : Nat) (t : TypeId), P.eqGuardType d t = S.eqGuardType d t
 | 0, _ => rfl
 | d + 1, t => by
   unfold Program.eqGuardType
   rw [under_eq hT]
   have : P.eqGuardType d = S.eqGuardType d := funext fun t => eqGuardType_eq d t
   simp only [this]
omit hT in
theorem Fol.forIn {γ σ : Type} (f : γ → σ → Sem (ForInStep σ)) : ∀ (l : List γ) (_ : ∀ x ∈ l, ∀ s, Fol P S (f x s)) (s : σ), Fol P S (ForIn.forIn l s f)
 | [], _, s => by rw [List.forIn_nil]; exact Fol.pure _
 | x :: l, hf, s => by
   rw [List.forIn_cons]
   refine Fol.bind (hf x (by simp) s) fun r => ?_
   cases r with
   | done b => exact Fol.pure _
   | yield b => exact Fol.forIn f l (fun y hy => hf y (by simp [hy])) b
omit hT in
theorem Fol.forInArr {γ σ : Type} (f : γ → σ → Sem (ForInStep σ)) (l : Array γ) (hf : ∀ x ∈ l, ∀ s, Fol P S (f x s)) (s : σ) : Fol P S (ForIn.forIn l s f) := by
 rw [← Array.forIn_toList]; exact Fol.forIn f _ (fun x hx => hf x (by simpa using hx)) s
def SimpleT (S : Program) (t : TypeId) : Prop := S.underlying t = some .bool ∨ ((∃ k, S.underlying t = some (.int k)) ∧ ∀ i, S.info? t = some i → ∀ n, i.desc ≠ .named "sync.copyChecker" n)
theorem under_ret {t : TypeId} {d : TypeDesc} (h : S.underlying t = some d) {f : TypeDesc → Sem α} (hf : Fol P S (f d)) : Fol P S (Go.underlying t >>= f) := by
 have e : ∀ p : Program, p.underlying t = some d → ∀ w es, (Go.underlying t >>= f).runT p w es = (f d).runT p w es := by
   intro p hp w es
   rw [bind_runT]
   unfold Go.underlying
   rw [bind_runT]
   simp only [Go.program, Sem.runT, hp]
   rfl
 have hP : P.underlying t = some d := by rw [under_eq hT]; exact h
 refine ⟨fun J w v es₀ es a v' es' hr h' ht => ?_, fun v es a v' es' hs h' => ?_, fun v es x v' es' hs h' => ?_⟩
 · rw [e S h] at h'
   obtain ⟨w', es'', h1, h2⟩ := hf.go J w v es₀ es a v' es' hr h' ht
   exact ⟨w', es'', by rw [e P hP]; exact h1, h2⟩
 · rw [e S h] at h'; exact hf.mono v es a v' es' hs h'
 · rw [e S h] at h'; exact hf.calm v es x v' es' hs h'
theorem info_ret {t : TypeId} {f : TypeInfo → Sem α} (h0 : ∀ i, S.info? t = some i → Fol P S (f i)) : Fol P S (Go.typeInfo t >>= f) := by
 have e : ∀ (p : Program) i, p.info? t = some i → ∀ w es, (Go.typeInfo t >>= f).runT p w es = (f i).runT p w es := by
   intro p i hp w es
   rw [bind_runT]
   unfold Go.typeInfo
   rw [bind_runT]
   simp only [Go.program, Sem.runT, hp]
   rfl
 have e0 : S.info? t = none → ∀ w es, (Go.typeInfo t >>= f).runT S w es = (.halt (.stuck "no such type") w, es) := by
   intro hp w es
   rw [bind_runT]
   unfold Go.typeInfo
   rw [bind_runT]
   simp only [Go.program, Sem.runT, hp]
   rfl
 refine ⟨fun J w v es₀ es a v' es' hr h' ht => ?_, fun v es a v' es' hs h' => ?_, fun v es x v' es' hs h' => ?_⟩
 all_goals cases hi : S.info? t with
   | none => rw [e0 hi] at h'; first | (simp at h'; done) | (simp only [Prod.mk.injEq, Result.halt.injEq] at h'; exact h'.1.1 ▸ trivial)
   | some i =>
     rw [e S i hi] at h'
     first
     | exact (h0 i hi).mono v es a v' es' hs h'
     | exact (h0 i hi).calm v es x v' es' hs h'
     | (obtain ⟨w', es'', h1, h2⟩ := (h0 i hi).go J w v es₀ es a v' es' hr h' ht
        exact ⟨w', es'', by rw [e P i (by rw [info_eq hT]; exact hi)]; exact h1, h2⟩)
omit hT in
theorem Dead.info {t : TypeId} {f : TypeInfo → Sem α} (h0 : ∀ i, S.info? t = some i → Dead S (f i)) : Dead S (Go.typeInfo t >>= f) := by
 have e : ∀ i, S.info? t = some i → ∀ w es, (Go.typeInfo t >>= f).runT S w es = (f i).runT S w es := by
   intro i hp w es
   rw [bind_runT]
   unfold Go.typeInfo
   rw [bind_runT]
   simp only [Go.program, Sem.runT, hp]
   rfl
 have e0 : S.info? t = none → ∀ w es, (Go.typeInfo t >>= f).runT S w es = (.halt (.stuck "no such type") w, es) := by
   intro hp w es
   rw [bind_runT]
   unfold Go.typeInfo
   rw [bind_runT]
   simp only [Go.program, Sem.runT, hp]
   rfl
 refine ⟨fun v es a v' es' hs h' => ?_, fun v es x v' es' hs h' => ?_⟩
 all_goals cases hi : S.info? t with
   | none => rw [e0 hi] at h'; first | (simp at h'; done) | (simp only [Prod.mk.injEq, Result.halt.injEq] at h'; exact h'.1.1 ▸ trivial)
   | some i =>
     rw [e i hi] at h'
     first
     | exact (h0 i hi).no v es a v' es' hs h'
     | exact (h0 i hi).calm v es x v' es' hs h'
theorem Fol.equalSimple (hG : S.globals.size = 0) {t : TypeId} (ht : SimpleT S t) (d : Nat) (x y : Value) : Fol P S (Op.equalIn (d + 1) t x y) := by
 unfold Op.equalIn
 rcases ht with h | ⟨⟨k, h⟩, hn⟩
 · refine under_ret hT h ?_
   split <;> first | exact Fol.pure _ | exact Fol.stuck _ | (exfalso; simp at *; done) | trivial
 · refine under_ret hT h ?_
   split
   all_goals first
     | contradiction
     | exact Fol.pure _
     | exact Fol.stuck _
     | (refine Fol.unsupported ?_; exact True.intro)
     | (split <;> first | exact Fol.pure _ | exact Fol.stuck _)
     | skip
   refine Dead.fol (Dead.after (behind_sane _) fun x => Dead.after (behind_sane _) fun y => ?_)
   refine Dead.ofProgram ?_
   rw [if_neg (by simp [hG])]
   refine Dead.info fun i hi => ?_
   split
   · exact absurd ‹_› (hn i hi _)
   · exact Dead.unsupported trivial
def StructT (S : Program) (t : TypeId) : Prop := ∃ fs, S.underlying t = some (.struct fs) ∧ ∀ f ∈ fs, SimpleT S f.type
theorem Fol.equalStruct (hG : S.globals.size = 0) {t : TypeId} (ht : StructT S t) (h1 : S.stoodInHeld t = false) (h2 : P.stoodInHeld t = false) (d : Nat) (x y : Value) : Fol P S (Op.equalIn (d + 2) t x y) := by
 unfold Op.equalIn
 obtain ⟨fs, h, hf⟩ := ht
 refine under_ret hT h ?_
 split
 all_goals first
   | contradiction
   | exact Fol.pure _
   | exact Fol.stuck _
   | (refine Fol.unsupported ?_; exact True.intro)
   | skip
 rename_i gs xs ys heq
 obtain rfl : fs = gs := by cases heq; rfl
 refine Fol.ofProgram (by simp only [h1, h2]) ?_
 simp only [h1, Bool.false_eq_true, if_false]
 refine Fol.bind (Fol.forInArr _ _ (fun f hm r => ?_) _) fun r => ?_
 · split
   · refine Fol.bind (Fol.part hT _ _ _) fun _ => Fol.bind (Fol.part hT _ _ _) fun _ => Fol.bind (Fol.equalSimple hT hG (hf f hm) d _ _) fun _ => ?_
     split <;> exact Fol.pure _
   · exact Fol.pure _
 · split <;> exact Fol.pure _
theorem Fol.eqGuardStep (t : TypeId) : ∀ x y : Value, (∀ a, x ≠ .agg a) → (∀ a, y ≠ .agg a) → Fol P S (Op.eqGuardIn Op.maxDepth t x y) := by
 intro x y hx hy
 have : ∀ d, Fol P S (Op.eqGuardIn (d + 1) t x y) := fun d => by
   unfold Op.eqGuardIn
   refine Fol.bind (Fol.underlying hT t) fun u => ?_
   split
   · exact Fol.pure _
   · exact absurd rfl (hx _)
   · exact absurd rfl (hx _)
   · exact Fol.pure _
 exact this 9999
theorem Fol.eqGuard (op : BinOp) {t : TypeId} (hg : S.eqGuardType S.depth t = false) (x y : Operand) (a b : Value) : Fol P S (Go.eqGuard op t x y a b) := by
 unfold Go.eqGuard
 repeat' (first
   | exact Fol.pure _
   | (refine Fol.unsupported ?_; exact True.intro)
   | (refine Fol.bind (Fol.eqGuardStep hT t _ _ (by simp) (by simp)) fun r => ?_)
   | (refine Fol.ofProgram (by simp only [eqGuardType_eq hT]) ?_
      refine Fol.ofProgram (by simp only [depth_eq hT]) ?_
      rw [hg])
   | split
   | dsimp only)
omit hT in
theorem Fol.floatToFloat (k : FloatKind) (x : Nat) (d : FloatKind) : Fol P S (Conv.floatToFloat k x d) := by
 unfold Conv.floatToFloat
 repeat' (first
   | assumption
   | exact Fol.pure _
   | exact Fol.stuck _
   | exact Fol.goPanic _
   | (refine Fol.unsupported ?_; exact True.intro)
   | exact Fol.runtimePanic hT _
   | exact Fol.boundsPanic hT _ _ _ _
   | exact Fol.underlying hT _
   | exact Fol.typeInfo hT _
   | exact Fol.sizeOf hT _
   | exact Fol.isAgg hT _
   | exact Fol.zeroValue hT _
   | exact Fol.elemOf hT _
   | exact Fol.part hT _ _ _
   | exact Fol.asIntOf _
   | exact Fol.asInt _
   | exact Fol.asBool _
   | exact Fol.asAgg _
   | exact Fol.asAddr hT _
   | exact Fol.sureAddr _
   | exact Fol.loadVar hT _ _
   | exact Fol.storeVar hT _ _ _
   | exact Fol.newRow _ _
   | exact Fol.newVar _ _
   | exact Fol.choose _
   | exact Fol.askRoom _
   | exact Fol.load _
   | exact Fol.store _ _
   | exact Fol.loadCells _ _
   | exact Fol.storeCells _ _ _
   | (refine Fol.bind ?_ (fun _ => ?_))
   | split
   | dsimp only)
omit hT in
theorem Fol.carith (op : BinOp) (k : FloatKind) (x y : Nat) : Fol P S (Op.Complex.arith op k x y) := by
 unfold Op.Complex.arith
 repeat' (first
   | assumption
   | exact Fol.pure _
   | exact Fol.stuck _
   | exact Fol.goPanic _
   | (refine Fol.unsupported ?_; exact True.intro)
   | exact Fol.runtimePanic hT _
   | exact Fol.boundsPanic hT _ _ _ _
   | exact Fol.underlying hT _
   | exact Fol.typeInfo hT _
   | exact Fol.sizeOf hT _
   | exact Fol.isAgg hT _
   | exact Fol.zeroValue hT _
   | exact Fol.elemOf hT _
   | exact Fol.part hT _ _ _
   | exact Fol.asIntOf _
   | exact Fol.asInt _
   | exact Fol.asBool _
   | exact Fol.asAgg _
   | exact Fol.asAddr hT _
   | exact Fol.sureAddr _
   | exact Fol.loadVar hT _ _
   | exact Fol.storeVar hT _ _ _
   | exact Fol.newRow _ _
   | exact Fol.newVar _ _
   | exact Fol.choose _
   | exact Fol.askRoom _
   | exact Fol.load _
   | exact Fol.store _ _
   | exact Fol.loadCells _ _
   | exact Fol.storeCells _ _ _
   | exact Fol.floatArith _ _ _ _
   | (refine Fol.bind ?_ (fun _ => ?_))
   | split
   | dsimp only)
omit hT in
theorem Fol.ccmp (op : BinOp) (k : FloatKind) (x y : Nat) : Fol P S (Op.Complex.cmp op k x y) := by
 unfold Op.Complex.cmp
 repeat' (first
   | assumption
   | exact Fol.pure _
   | exact Fol.stuck _
   | exact Fol.goPanic _
   | (refine Fol.unsupported ?_; exact True.intro)
   | exact Fol.runtimePanic hT _
   | exact Fol.boundsPanic hT _ _ _ _
   | exact Fol.underlying hT _
   | exact Fol.typeInfo hT _
   | exact Fol.sizeOf hT _
   | exact Fol.isAgg hT _
   | exact Fol.zeroValue hT _
   | exact Fol.elemOf hT _
   | exact Fol.part hT _ _ _
   | exact Fol.asIntOf _
   | exact Fol.asInt _
   | exact Fol.asBool _
   | exact Fol.asAgg _
   | exact Fol.asAddr hT _
   | exact Fol.sureAddr _
   | exact Fol.loadVar hT _ _
   | exact Fol.storeVar hT _ _ _
   | exact Fol.newRow _ _
   | exact Fol.newVar _ _
   | exact Fol.choose _
   | exact Fol.askRoom _
   | exact Fol.load _
   | exact Fol.store _ _
   | exact Fol.loadCells _ _
   | exact Fol.storeCells _ _ _
   | exact Fol.floatCmp _ _ _ _
   | (refine Fol.bind ?_ (fun _ => ?_))
   | split
   | dsimp only)
omit hT in
theorem Fol.cconv (k : FloatKind) (x : Nat) (d : FloatKind) : Fol P S (Op.Complex.conv k x d) := by
 unfold Op.Complex.conv
 repeat' (first
   | assumption
   | exact Fol.pure _
   | exact Fol.stuck _
   | exact Fol.goPanic _
   | (refine Fol.unsupported ?_; exact True.intro)
   | exact Fol.runtimePanic hT _
   | exact Fol.boundsPanic hT _ _ _ _
   | exact Fol.underlying hT _
   | exact Fol.typeInfo hT _
   | exact Fol.sizeOf hT _
   | exact Fol.isAgg hT _
   | exact Fol.zeroValue hT _
   | exact Fol.elemOf hT _
   | exact Fol.part hT _ _ _
   | exact Fol.asIntOf _
   | exact Fol.asInt _
   | exact Fol.asBool _
   | exact Fol.asAgg _
   | exact Fol.asAddr hT _
   | exact Fol.sureAddr _
   | exact Fol.loadVar hT _ _
   | exact Fol.storeVar hT _ _ _
   | exact Fol.newRow _ _
   | exact Fol.newVar _ _
   | exact Fol.choose _
   | exact Fol.askRoom _
   | exact Fol.load _
   | exact Fol.store _ _
   | exact Fol.loadCells _ _
   | exact Fol.storeCells _ _ _
   | exact Fol.floatToFloat _ _ _
   | (refine Fol.bind ?_ (fun _ => ?_))
   | split
   | dsimp only)
omit hT in
theorem Fol.cadd (x y : Nat) : Fol P S (Op.Complex.add x y) := Fol.carith _ _ _ _
omit hT in
theorem Fol.csub (x y : Nat) : Fol P S (Op.Complex.sub x y) := Fol.carith _ _ _ _
omit hT in
theorem Fol.cmul (x y : Nat) : Fol P S (Op.Complex.mul x y) := Fol.carith _ _ _ _
omit hT in
theorem Fol.cquo (x y : Nat) : Fol P S (Op.Complex.quo x y) := Fol.carith _ _ _ _
omit hT in
theorem Fol.cproduct (a b c d : Nat) : Fol P S (Op.Complex.product a b c d) := by
 unfold Op.Complex.product
 repeat' (first
   | with_reducible exact Fol.cadd _ _
   | with_reducible exact Fol.csub _ _
   | with_reducible exact Fol.cmul _ _
   | with_reducible exact Fol.cquo _ _
   | with_reducible exact Fol.ccmp _ _ _ _
   | with_reducible exact Fol.cconv _ _ _
   | with_reducible exact Fol.carith _ _ _ _
   | with_reducible exact Fol.pure' _
   | with_reducible exact Fol.stuck _
   | (with_reducible refine Fol.bind ?_ (fun _ => ?_))
   | (with_reducible refine Fol.ite ?_ ?_)
   | split
   | dsimp only)
omit hT in
theorem Fol.ccorrected (s a b c d : Nat) : Fol P S (Op.Complex.corrected s a b c d) := by
 unfold Op.Complex.corrected
 repeat' (first
   | with_reducible exact Fol.cadd _ _
   | with_reducible exact Fol.csub _ _
   | with_reducible exact Fol.cmul _ _
   | with_reducible exact Fol.cquo _ _
   | with_reducible exact Fol.ccmp _ _ _ _
   | with_reducible exact Fol.cconv _ _ _
   | with_reducible exact Fol.cproduct _ _ _ _
   | with_reducible exact Fol.carith _ _ _ _
   | with_reducible exact Fol.pure' _
   | with_reducible exact Fol.stuck _
   | (with_reducible refine Fol.bind ?_ (fun _ => ?_))
   | (with_reducible refine Fol.ite ?_ ?_)
   | split
   | dsimp only)
set_option maxHeartbeats 4000000 in
omit hT in
theorem Fol.cquotient (a b c d : Nat) : Fol P S (Op.Complex.quotient a b c d) := by
 unfold Op.Complex.quotient
 repeat' (first
   | with_reducible exact Fol.cadd _ _
   | with_reducible exact Fol.csub _ _
   | with_reducible exact Fol.cmul _ _
   | with_reducible exact Fol.cquo _ _
   | with_reducible exact Fol.ccmp _ _ _ _
   | with_reducible exact Fol.cconv _ _ _
   | with_reducible exact Fol.cproduct _ _ _ _
   | with_reducible exact Fol.ccorrected _ _ _ _ _
   | with_reducible exact Fol.carith _ _ _ _
   | with_reducible exact Fol.pure' _
   | with_reducible exact Fol.stuck _
   | (with_reducible refine Fol.bind ?_ (fun _ => ?_))
   | (with_reducible refine Fol.ite ?_ ?_)
   | split
   | dsimp only)
omit hT in
theorem Fol.complexOp (op : BinOp) (k : FloatKind) (a b c d : Nat) : Fol P S (Op.complexOp op k a b c d) := by
 unfold Op.complexOp
 repeat' (first
   | with_reducible exact Fol.cadd _ _
   | with_reducible exact Fol.csub _ _
   | with_reducible exact Fol.cmul _ _
   | with_reducible exact Fol.cquo _ _
   | with_reducible exact Fol.ccmp _ _ _ _
   | with_reducible exact Fol.cconv _ _ _
   | with_reducible exact Fol.cproduct _ _ _ _
   | with_reducible exact Fol.ccorrected _ _ _ _ _
   | with_reducible exact Fol.cquotient _ _ _ _
   | with_reducible exact Fol.carith _ _ _ _
   | with_reducible exact Fol.pure' _
   | with_reducible exact Fol.stuck _
   | (with_reducible refine Fol.bind ?_ (fun _ => ?_))
   | (with_reducible refine Fol.ite ?_ ?_)
   | split
   | dsimp only)
omit hT in
theorem Dead.twoPlaces (hG : S.globals.size = 0) (a b : Addr) {f : Nat × Nat → Sem α} : Dead S (Op.twoPlaces a b >>= f) := by
 refine Dead.thenAny ?_
 unfold Op.twoPlaces
 refine Dead.ofProgram ?_
 rw [if_pos (by simp [hG])]
 exact Dead.thenAny (Dead.unsupported trivial)
omit hT in
theorem Dead.addrSub (hG : S.globals.size = 0) (k : IntKind) (a b : Addr) : Dead S (Op.addrSub k a b) := by
 unfold Op.addrSub; exact Dead.twoPlaces hG _ _
omit hT in
theorem Dead.addrCmp (hG : S.globals.size = 0) (op : BinOp) (a b : Addr) : Dead S (Op.addrCmp op a b) := by
 unfold Op.addrCmp; exact Dead.twoPlaces hG _ _
theorem Fol.behindMod (k : IntKind) (a : Addr) (n : Int) : Fol P S (Go.behindNumber a >>= fun x => Op.addrMod k x.1 n) := by
 have weirdNo : ∀ (v : World) (_ : SW v) (_ : v.heap[a.block]? = some weird) es x v' es', (Op.addrMod k a n).runT S v es ≠ (.ok x v', es') := by
   intro v hs h es x v' es' hx
   unfold Op.addrMod at hx
   rw [shape_runT, noShape_weird h] at hx
   simp [Go.unsupported, Sem.runT, -Sem.runT_eq] at hx
 refine ⟨fun J w v es₀ es b v' es' hr h ht => ?_, fun v es b v' es' hs h => ?_, fun v es x v' es' hs h => ?_⟩
 all_goals rw [bind_runT] at h
 · rcases behind_sw (S := S) hr.sw a es₀ with ⟨x, es1, hx, hw⟩ | ⟨m, hx⟩
   · rw [hx] at h
     by_cases hwd : v.heap[a.block]? = some weird
     · obtain rfl := hw hwd
       exact absurd h (weirdNo v hr.sw hwd _ _ _ _)
     · obtain ⟨_, new, h2, h3⟩ := behind_ok (P := P) (S := S) hr hwd hx es
       obtain ⟨w', es'', h4, A⟩ := (Fol.addrMod hT k x.1 n).go J w v es1 (es ++ new) b v' es' hr h ht
       refine ⟨w', es'', by rw [bind_runT, h2]; exact h4, ⟨A.rel, A.tapeS, A.tapeP, A.dr, A.os, A.out, A.keep, ?_, A.size⟩⟩
       obtain ⟨n2, e2, o2⟩ := A.evs
       exact ⟨new ++ n2, by rw [e2, Array.append_assoc], fun e he => (Array.mem_append.1 he).elim (fun x => (h3 e x).mono A.size) (o2 e)⟩
   · rw [hx] at h; simp at h
 · rcases behind_sw (S := S) hs a es with ⟨x, es1, hx, _⟩ | ⟨m, hx⟩
   · rw [hx] at h; exact (Fol.addrMod hT k x.1 n).mono v es1 b v' es' hs h
   · rw [hx] at h; simp at h
 · rcases behind_sw (S := S) hs a es with ⟨y', es1, hx, _⟩ | ⟨m, hx⟩
   · rw [hx] at h; exact (Fol.addrMod hT k y'.1 n).calm v es1 _ v' es' hs h
   · rw [hx] at h
     simp only [Prod.mk.injEq, Result.halt.injEq] at h
     exact h.1.1 ▸ trivial
def binOk : BinOp → Bool
 | .add | .sub | .mul | .quo | .rem | .xor | .lss | .leq | .gtr | .geq | .eql | .neq => true
 | _ => false
theorem Fol.binOp (hG : S.globals.size = 0) {t : TypeId} (hu : ∃ k, S.underlying t = some (.int k)) {op : BinOp} (hop : binOk op = true) (heq : ∀ x y, Fol P S (Op.equal t x y)) (x y : Value) : Fol P S (Go.binOp op t x y) := by
 obtain ⟨ku, hu⟩ := hu
 unfold Go.binOp
 split
 all_goals first
   | (simp [binOk] at hop; done)
   | exact Fol.intCmp _ _ _
   | exact Fol.complexOp _ _ _ _ _ _
   | exact Fol.stringOp _ _ _
   | exact Fol.stuck _
   | (refine Fol.unsupported ?_; exact True.intro)
   | exact Fol.movedNumber hT _ _ _
   | exact Fol.behindMod hT _ _ _
   | exact Fol.bind (heq _ _) fun _ => Fol.pure _
   | exact Dead.fol (Dead.after (behind_sane _) fun _ => Dead.after (behind_sane _) fun _ => Dead.addrSub hG _ _ _)
   | exact Dead.fol (Dead.after (behind_sane _) fun _ => Dead.after (behind_sane _) fun _ => Dead.addrCmp hG _ _ _)
   | (refine under_ret hT hu ?_; exact Fol.movedNumber hT _ _ _)
   | (refine Fol.ite (Fol.stuck _) ?_; exact Fol.complexOp _ _ _ _ _ _)
   | (refine Fol.ite (Fol.stuck _) ?_
      cases op <;> first | exact Fol.intArith _ _ _ _ | exact Fol.intDiv hT _ _ _ _ | exact Fol.intBits _ _ _ _ | exact Fol.intCmp _ _ _)
   | (refine Fol.ite (Fol.stuck _) ?_
      cases op <;> first | exact Fol.floatArith _ _ _ _ | exact Fol.floatCmp _ _ _ _)
end
end Go.Proofs.Ytcoppnbjpncdcaa.Sim
end
section
namespace Go.Proofs.Ytcoppnbjpncdcaa.Sim
open Go
def blank : Func := { name := "removed", origin := "", params := #[], resultTypes := #[], nfree := 0, ntmps := 0, results := #[], body := none, norace := false, tmpNames := #[] }
structure Twin (P S : Program) : Prop where
 tab : S.toTables = P.toTables
 glob : S.globals.size = 0
 funcs : ∀ (f : FuncId) (fn : Func), S.funcs[f]? = some fn → fn = blank ∨ (fn.body.isSome = true ∧ (fn.name == "runtime.NumGoroutine") = false ∧
   ∃ fn' : Func, P.funcs[f]? = some fn' ∧ fn'.body.isSome = true ∧ (fn'.name == "runtime.NumGoroutine") = false)
section
variable {P S : Program} {α β : Type}
theorem Sane.bind {s : Sem α} {f : α → Sem β} (hs : Sane S s) (hf : ∀ a, Sane S (f a)) : Sane S (s >>= f) := by
 refine ⟨fun v es b v' es' hsw h => ?_, fun v es x v' es' hsw h => ?_⟩
 all_goals rw [bind_runT] at h
 · cases hx : s.runT S v es with
   | mk r es1 =>
     rw [hx] at h
     cases r with
     | halt y v1 => simp at h
     | ok a v1 => exact (hf a).mono v1 es1 b v' es' (hs.mono v es a v1 es1 hsw hx) h
 · cases hx : s.runT S v es with
   | mk r es1 =>
     rw [hx] at h
     cases r with
     | halt y v1 =>
       simp only [Prod.mk.injEq, Result.halt.injEq] at h
       obtain ⟨⟨rfl, rfl⟩, rfl⟩ := h
       exact hs.calm v es y v1 es1 hsw hx
     | ok a v1 => exact (hf a).calm v1 es1 x v' es' (hs.mono v es a v1 es1 hsw hx) h
theorem Sane.pure (a : α) : Sane S (Pure.pure a : Sem α) := Fol.sane (P := S) (Fol.pure a)
theorem Sane.shape (r : Nat) : Sane S (Go.shape r) := by
 refine ⟨fun v es a v' es' hs h => ?_, fun v es x v' es' hs h => ?_⟩
 all_goals simp only [Go.shape, Sem.runT, Prod.mk.injEq, Result.ok.injEq] at h
 · exact h.1.2 ▸ hs
 · simp at h
theorem Sane.frozen (r : Addr) : Sane S (Go.frozen r) := by
 refine ⟨fun v es a v' es' hs h => ?_, fun v es x v' es' hs h => ?_⟩
 all_goals simp only [Go.frozen, Sem.runT, Prod.mk.injEq, Result.ok.injEq] at h
 · exact h.1.2 ▸ hs
 · simp at h
theorem Sane.mark (m : Mark) : Sane S (Go.mark m) := by
 refine ⟨fun v es a v' es' hs h => ?_, fun v es x v' es' hs h => ?_⟩
 all_goals simp only [Go.mark, Sem.runT, Prod.mk.injEq, Result.ok.injEq] at h
 · exact h.1.2 ▸ hs
 · simp at h
theorem Sane.holdsCells (a : Addr) (n : Nat) : Sane S (Builtin.holdsCells a n) := by
 unfold Builtin.holdsCells
 refine Sane.bind (Sane.shape _) fun x => ?_
 split <;> exact Sane.pure _
theorem Sane.mayShare (a b c : Nat) (q : Option Addr) (x : Value) : Sane S (Builtin.mayShare a b c q x) := by
 unfold Builtin.mayShare
 repeat' (first
   | exact Sane.pure _
   | exact Sane.holdsCells _ _
   | exact Sane.frozen _
   | (refine Sane.bind ?_ (fun _ => ?_))
   | split
   | dsimp only)
variable (hT : S.toTables = P.toTables)
include hT
omit hT in
theorem Fol.firstCells (a b : Nat) (x : Value) : Fol P S (Builtin.firstCells a b x) := by
 unfold Builtin.firstCells
 repeat' (first
   | assumption
   | exact Fol.pure _
   | exact Fol.stuck _
   | exact Fol.goPanic _
   | (refine Fol.unsupported ?_; exact True.intro)
   | exact Fol.runtimePanic hT _
   | exact Fol.boundsPanic hT _ _ _ _
   | exact Fol.underlying hT _
   | exact Fol.typeInfo hT _
   | exact Fol.sizeOf hT _
   | exact Fol.isAgg hT _
   | exact Fol.zeroValue hT _
   | exact Fol.elemOf hT _
   | exact Fol.part hT _ _ _
   | exact Fol.asIntOf _
   | exact Fol.asInt _
   | exact Fol.asBool _
   | exact Fol.asAgg _
   | exact Fol.asAddr hT _
   | exact Fol.sureAddr _
   | exact Fol.loadVar hT _ _
   | exact Fol.storeVar hT _ _ _
   | exact Fol.newRow _ _
   | exact Fol.newVar _ _
   | exact Fol.choose _
   | exact Fol.askRoom _
   | exact Fol.load _
   | exact Fol.store _ _
   | exact Fol.loadCells _ _
   | exact Fol.storeCells _ _ _
   | (refine Fol.bind ?_ (fun _ => ?_))
   | split
   | dsimp only)
omit hT in
theorem Fol.lenOf (x : Value) : Fol P S (Builtin.lenOf x) := by
 unfold Builtin.lenOf
 split <;> first | exact Fol.pure _ | exact Fol.stuck _
set_option maxHeartbeats 1000000 in
theorem Fol.append {a : Array TypeId} (hx : ∀ t1, a[1]? = some t1 → ∃ d, S.underlying t1 = some d ∧ ∀ k, d ≠ .int k) (t : TypeId) (args : Array Value) : Fol P S (Builtin.append_ a t args) := by
 unfold Builtin.append_
 split
 · refine Fol.bind (Fol.underlying hT _) fun d => ?_
   split
   · split
     · refine Fol.bind (Fol.sizeOf hT _) fun size => ?_
       cases h1 : a[1]? with
       | none =>
         simp only [pure_bind, Bool.false_eq_true, if_false, Bool.not_false, if_true]
         refine Fol.bind (Fol.lenOf _) fun n => ?_
         repeat' (first
           | with_reducible exact Fol.pure' _
           | with_reducible exact Fol.firstCells _ _ _
           | with_reducible exact Fol.storeCells _ _ _
           | with_reducible exact Fol.typeInfo hT _
           | with_reducible exact Fol.runtimePanic hT _
           | with_reducible exact Fol.choose _
           | with_reducible exact Fol.askRoom _
           | with_reducible exact Fol.zeroValue hT _
           | with_reducible exact Fol.newRow _ _
           | (with_reducible refine Dead.fol (Dead.after (Sane.mayShare _ _ _ _ _) fun _ => ?_))
           | (with_reducible refine Dead.after (Sane.mark _) fun _ => ?_)
           | exact Dead.unsupported trivial
           | exact Dead.thenAny (Dead.unsupported trivial)
           | (with_reducible refine Fol.bind ?_ (fun _ => ?_))
           | (with_reducible refine Fol.ite ?_ ?_)
           | split
           | dsimp only)
       | some t1 =>
         obtain ⟨d, hd, hk⟩ := hx t1 h1
         refine under_ret hT hd ?_
         have : (match d with | .int _ => true | _ => false) = false := by cases d <;> first | rfl | exact absurd rfl (hk _)
         simp only [pure_bind, Bool.false_eq_true, if_false, Bool.not_false, if_true]
         refine Fol.bind (Fol.lenOf _) fun n => ?_
         repeat' (first
           | with_reducible exact Fol.pure' _
           | with_reducible exact Fol.firstCells _ _ _
           | with_reducible exact Fol.storeCells _ _ _
           | with_reducible exact Fol.typeInfo hT _
           | with_reducible exact Fol.runtimePanic hT _
           | with_reducible exact Fol.choose _
           | with_reducible exact Fol.askRoom _
           | with_reducible exact Fol.zeroValue hT _
           | with_reducible exact Fol.newRow _ _
           | (with_reducible refine Dead.fol (Dead.after (Sane.mayShare _ _ _ _ _) fun _ => ?_))
           | (with_reducible refine Dead.after (Sane.mark _) fun _ => ?_)
           | exact Dead.unsupported trivial
           | exact Dead.thenAny (Dead.unsupported trivial)
           | (with_reducible refine Fol.bind ?_ (fun _ => ?_))
           | (with_reducible refine Fol.ite ?_ ?_)
           | split
           | dsimp only)
     · exact Fol.stuck _
   · exact Fol.stuck _
 · exact Fol.stuck _
set_option maxHeartbeats 1000000 in
theorem Fol.appendMake {a : Array TypeId} {t1 : TypeId} {k : IntKind} (h1 : a[1]? = some t1) (hd : S.underlying t1 = some (.int k)) (t : TypeId) (args : Array Value) : Fol P S (Builtin.append_ a t args) := by
 unfold Builtin.append_
 split
 · refine Fol.bind (Fol.underlying hT _) fun d => ?_
   split
   · split
     · refine Fol.bind (Fol.sizeOf hT _) fun size => ?_
       rw [h1]
       refine under_ret hT hd ?_
       simp only [pure_bind, Bool.not_true, Bool.false_eq_true, if_false, if_true]
       repeat' (first
           | with_reducible exact Fol.pure' _
           | with_reducible exact Fol.asInt _
           | with_reducible exact Fol.firstCells _ _ _
           | with_reducible exact Fol.storeCells _ _ _
           | with_reducible exact Fol.typeInfo hT _
           | with_reducible exact Fol.runtimePanic hT _
           | with_reducible exact Fol.choose _
           | with_reducible exact Fol.askRoom _
           | with_reducible exact Fol.zeroValue hT _
           | with_reducible exact Fol.newRow _ _
           | (with_reducible refine Dead.fol (Dead.after (Sane.mayShare _ _ _ _ _) fun _ => ?_))
           | (with_reducible refine Dead.after (Sane.mark _) fun _ => ?_)
           | exact Dead.unsupported trivial
           | exact Dead.thenAny (Dead.unsupported trivial)
           | (with_reducible refine Fol.bind ?_ (fun _ => ?_))
           | (with_reducible refine Fol.ite ?_ ?_)
           | split
           | dsimp only)
     · exact Fol.stuck _
   · exact Fol.stuck _
 · exact Fol.stuck _
theorem Fol.convertInt {src dst : TypeId} {ks kd : IntKind} (hs : S.underlying src = some (.int ks)) (hd : S.underlying dst = some (.int kd)) (x : Value) : Fol P S (Go.convert src dst x) := by
 unfold Go.convert
 refine under_ret hT hs (under_ret hT hd ?_)
 split
 all_goals first
   | contradiction
   | exact Fol.pure _
   | exact Fol.floatToInt _ _ _
   | exact Fol.stuck _
   | (refine Fol.unsupported ?_; exact True.intro)
theorem Fol.fieldAt {s : TypeId} {i : Nat} (hz : ∀ fs f t, S.underlying s = some (.struct fs) → fs[i]? = some f → S.info? f.type = some t → t.size ≠ 0) (x : Value) : Fol P S (Instr.fieldAt s x i) := by
 unfold Instr.fieldAt
 cases hu : S.underlying s with
 | none =>
   refine Dead.fol (Dead.thenAny ?_)
   unfold Go.underlying
   refine Dead.ofProgram ?_
   rw [hu]
   exact Dead.halt trivial
 | some d =>
   refine under_ret hT hu ?_
   split
   · rename_i fs
     split
     · rename_i f hf
       refine Fol.bind (Fol.sureAddr x) fun a => Fol.bind ?_ fun _ => Fol.pure _
       unfold Go.fieldPlace Go.sizeOf
       rw [bind_assoc]
       refine info_ret hT fun t ht => ?_
       rw [pure_bind, if_neg (hz fs f t hu hf ht)]
       exact Fol.pure _
     · exact Fol.stuck _
   · exact Fol.stuck _
theorem Fol.lenSlice {a : Array TypeId} {t : TypeId} {args : Array Value} (hu : ∀ t0, a[0]? = some t0 → ∃ e, S.underlying t0 = some (.slice e)) : Fol P S (Builtin.len_ a t args) := by
 unfold Builtin.len_
 split
 · rename_i t0 x h0
   obtain ⟨e, he⟩ := hu t0 (Prod.mk.inj h0).1
   refine under_ret hT he ?_
   split
   all_goals first
     | contradiction
     | exact Fol.pure _
     | exact Fol.stuck _
 · exact Fol.stuck _
theorem Fol.followBlind : ∀ (l : List FieldStep) (t : TypeId) (x : Option Value), Fol P S (Go.followBlind l t x)
 | [], _, _ => Fol.pure _
 | s :: rest, t, x => by
   unfold Go.followBlind
   have ih := fun t x => Fol.followBlind rest t x
   repeat' (first
   | assumption
   | exact Fol.pure _
   | exact Fol.stuck _
   | exact Fol.goPanic _
   | (refine Fol.unsupported ?_; exact True.intro)
   | exact Fol.runtimePanic hT _
   | exact Fol.boundsPanic hT _ _ _ _
   | exact Fol.underlying hT _
   | exact Fol.typeInfo hT _
   | exact Fol.sizeOf hT _
   | exact Fol.isAgg hT _
   | exact Fol.zeroValue hT _
   | exact Fol.elemOf hT _
   | exact Fol.part hT _ _ _
   | exact Fol.asIntOf _
   | exact Fol.asInt _
   | exact Fol.asBool _
   | exact Fol.asAgg _
   | exact Fol.asAddr hT _
   | exact Fol.sureAddr _
   | exact Fol.loadVar hT _ _
   | exact Fol.storeVar hT _ _ _
   | exact Fol.newRow _ _
   | exact Fol.newVar _ _
   | exact Fol.choose _
   | exact Fol.askRoom _
   | exact Fol.load _
   | exact Fol.store _ _
   | exact Fol.loadCells _ _
   | exact Fol.storeCells _ _ _
   | exact ih _ _
   | (refine Fol.bind ?_ (fun _ => ?_))
   | split
   | dsimp only)
theorem Fol.nilAhead : ∀ (n : Nat) (t : TypeId) (v : Value) (m : String), Fol P S (Go.nilAhead n t v m)
 | 0, _, _, _ => Fol.pure _
 | n + 1, t, v, m => by
   unfold Go.nilAhead
   have ih := fun t v => Fol.nilAhead n t v m
   repeat' (first
   | assumption
   | exact Fol.pure _
   | exact Fol.stuck _
   | exact Fol.goPanic _
   | (refine Fol.unsupported ?_; exact True.intro)
   | exact Fol.runtimePanic hT _
   | exact Fol.boundsPanic hT _ _ _ _
   | exact Fol.underlying hT _
   | exact Fol.typeInfo hT _
   | exact Fol.sizeOf hT _
   | exact Fol.isAgg hT _
   | exact Fol.zeroValue hT _
   | exact Fol.elemOf hT _
   | exact Fol.part hT _ _ _
   | exact Fol.asIntOf _
   | exact Fol.asInt _
   | exact Fol.asBool _
   | exact Fol.asAgg _
   | exact Fol.asAddr hT _
   | exact Fol.sureAddr _
   | exact Fol.loadVar hT _ _
   | exact Fol.storeVar hT _ _ _
   | exact Fol.newRow _ _
   | exact Fol.newVar _ _
   | exact Fol.choose _
   | exact Fol.askRoom _
   | exact Fol.load _
   | exact Fol.store _ _
   | exact Fol.loadCells _ _
   | exact Fol.storeCells _ _ _
   | exact ih _ _
   | exact Fol.followBlind hT _ _ _
   | (refine Fol.bind ?_ (fun _ => ?_))
   | split
   | dsimp only)
omit hT in
def fieldOk (S : Program) (s : TypeId) (i : Nat) : Bool :=
 match S.underlying s with
 | some (.struct fs) => match fs[i]? with
   | some f => match S.info? f.type with
     | some t => t.size != 0
     | none => true
   | none => true
 | _ => true
def intTy (S : Program) (t : TypeId) : Bool := match S.underlying t with | some (.int _) => true | _ => false
def sliceTy (S : Program) (t : TypeId) : Bool := match S.underlying t with | some (.slice _) => true | _ => false
def simpleTy (S : Program) (t : TypeId) : Bool :=
 match S.underlying t with
 | some .bool => true
 | some (.int _) => match S.info? t with
   | some i => match i.desc with
     | .named "sync.copyChecker" _ => false
     | _ => true
   | none => true
 | _ => false
def structTy (S : Program) (t : TypeId) : Bool :=
 match S.underlying t with
 | some (.struct fs) => fs.all (fun f => simpleTy S f.type) && !S.stoodInHeld t
 | _ => false
def opOk (S : Program) (o : Oper) : Bool :=
 match o.op with
 | .move _ | .assign _ | .pick .. | .alloc _ | .box .. | .build .. | .buildSlice .. | .load .. | .store .. | .extract .. | .makeSlice .. | .slice .. | .indexAddr .. | .nilCheck _ => true
 | .binOp op t _ _ _ => (binOk op && intTy S t && simpleTy S t || (op == .eql || op == .neq) && (simpleTy S t || structTy S t)) && !S.eqGuardType S.depth t
 | .unOp .not _ _ => true
 | .range _ (.const (.string s)) => s.size == 0
 | .convert s d _ => intTy S s && intTy S d
 | .fieldAddr s _ f => fieldOk S s f
 | .call { callee := .builtin .len, argTypes, .. } => (argTypes[0]?).all (sliceTy S)
 | .call { callee := .builtin .append, argTypes, .. } => (argTypes[1]?).all fun t => sliceTy S t || intTy S t
 | .call { callee := .builtin .max, .. } | .call { callee := .builtin .min, .. } => true
 | .call { callee := .value (.func f), args, .. } => (S.funcs[f]?).all fun g => decide (args.size ≤ g.ntmps)
 | _ => false
def NextOk (S : Program) : Next → Prop
 | .value _ | .skip => True
 | .enter f xs => ∃ fn : Func, S.funcs[f]? = some fn ∧ fn.body.isSome = true ∧ xs.size ≤ fn.ntmps
 | _ => False
structure Fol1 (P S : Program) (s : Sem Next) : Prop where
 fol : Fol P S s
 next : ∀ (v : World) (es : Array Event) (a : Next) (v' : World) (es' : Array Event), SW v → s.runT S v es = (.ok a v', es') → NextOk S a
omit hT in
theorem Fol1.value {s : Sem Value} (h : Fol P S s) : Fol1 P S (do Pure.pure (.value (← s))) := by
 refine ⟨Fol.bind h fun _ => Fol.pure _, fun v es a v' es' hs hx => ?_⟩
 rw [bind_runT] at hx
 cases h1 : s.runT S v es with
 | mk r e1 =>
   rw [h1] at hx
   cases r with
   | halt y v1 => simp at hx
   | ok z v1 =>
     have h' : Result.ok (Next.value z) v1 = Result.ok a v' := (Prod.mk.inj (show ((Result.ok (Next.value z) v1, e1) : Result Next × Array Event) = _ from hx)).1
     simp only [Result.ok.injEq] at h'
     rw [← h'.1]; trivial
omit hT in
theorem Fol1.skip {s : Sem Unit} (h : Fol P S s) : Fol1 P S (do s; Pure.pure .skip) := by
 refine ⟨Fol.bind h fun _ => Fol.pure _, fun v es a v' es' hs hx => ?_⟩
 rw [bind_runT] at hx
 cases h1 : s.runT S v es with
 | mk r e1 =>
   rw [h1] at hx
   cases r with
   | halt y v1 => simp at hx
   | ok z v1 =>
     have h' : Result.ok Next.skip v1 = Result.ok a v' := (Prod.mk.inj (show ((Result.ok Next.skip v1, e1) : Result Next × Array Event) = _ from hx)).1
     simp only [Result.ok.injEq] at h'
     rw [← h'.1]; trivial
omit hT in
theorem Fol1.pureValue (v : Value) : Fol1 P S (Pure.pure (.value v)) := by
 refine ⟨Fol.pure _, fun w es a v' es' hs hx => ?_⟩
 have h' : Result.ok (Next.value v) w = Result.ok a v' := (Prod.mk.inj hx).1
 simp only [Result.ok.injEq] at h'
 rw [← h'.1]; trivial
omit hT in
theorem Fol1.dead {s : Sem Next} (h : Dead S s) : Fol1 P S s := ⟨h.fol, fun v es a v' es' hs hx => absurd hx (h.no v es a v' es' hs)⟩
omit hT in
theorem Fol1.callFunc (T : Twin P S) (f : FuncId) (args : Array Value) (hargs : ∀ g, S.funcs[f]? = some g → args.size ≤ g.ntmps) : Fol1 P S (Go.callFunc f args) := by
 cases hf : S.funcs[f]? with
 | none =>
   unfold Go.callFunc
   refine Fol1.dead (Dead.ofProgram ?_)
   rw [hf]
   exact Dead.halt trivial
 | some fn =>
   rcases T.funcs f fn hf with rfl | ⟨hb, hn, fn', hf', hb', hn'⟩
   · unfold Go.callFunc
     refine Fol1.dead (Dead.ofProgram ?_)
     rw [hf]
     have e1 : (blank.name == "runtime.NumGoroutine") = false := by kernel_rfl
     have e2 : blank.body.isNone = true := rfl
     have e3 : Extern.findNext blank = none := by kernel_rfl
     have e4 : Extern.find blank = none := by kernel_rfl
     have e5 : (blank.name.endsWith ".init" && !blank.name.startsWith "(" && !blank.name.startsWith "gosem.") = false := by kernel_rfl
     simp only [e1, e2, Bool.false_eq_true, if_false, if_true]
     refine Dead.after (Sane.mark _) fun _ => ?_
     simp only [e3, e4, e5, Bool.false_eq_true, if_false]
     exact Dead.unsupported trivial
   · have hbn : ∀ g : Func, g.body.isSome = true → g.body.isNone = false := fun g h => by cases hg : g.body <;> simp_all
     have eS : ∀ w es, (Go.callFunc f args).runT S w es = (.ok (.enter f args) w, es) := by
       intro w es
       unfold Go.callFunc
       rw [bind_runT]
       simp only [Go.program, Sem.runT, hf, hn, hbn fn hb, Bool.false_eq_true, if_false]
       rfl
     have eP : ∀ w es, (Go.callFunc f args).runT P w es = (.ok (.enter f args) w, es) := by
       intro w es
       unfold Go.callFunc
       rw [bind_runT]
       simp only [Go.program, Sem.runT, hf', hn', hbn fn' hb', Bool.false_eq_true, if_false]
       rfl
     refine ⟨⟨fun J w v es₀ es a v' es' hr h _ => ?_, fun v es a v' es' hs h => ?_, fun v es x v' es' hs h => ?_⟩, fun v es a v' es' hs h => ?_⟩
     all_goals first | rw [show _ = _ from eS v es] at h | rw [show _ = _ from eS v es₀] at h
     · simp only [Prod.mk.injEq, Result.ok.injEq] at h
       obtain ⟨⟨rfl, rfl⟩, rfl⟩ := h
       exact ⟨w, es, eP w es, .refl hr es⟩
     · simp only [Prod.mk.injEq, Result.ok.injEq] at h
       obtain ⟨⟨rfl, rfl⟩, rfl⟩ := h
       exact ⟨Nat.le_refl _, hs, rfl, Nat.le_refl _⟩
     · simp at h
     · simp only [Prod.mk.injEq, Result.ok.injEq] at h
       obtain ⟨⟨rfl, rfl⟩, rfl⟩ := h
       exact ⟨fn, hf, hb, hargs fn hf⟩
omit hT in
theorem SimpleT.of {t : TypeId} (h : simpleTy S t = true) : SimpleT S t := by
 unfold simpleTy at h
 split at h
 · rename_i hu; exact .inl hu
 · rename_i k hu
   refine .inr ⟨⟨k, hu⟩, fun i hi n hn => ?_⟩
   rw [hi] at h
   simp [hn] at h
 · simp at h
omit hT in
theorem StructT.of {t : TypeId} (h : structTy S t = true) : StructT S t ∧ S.stoodInHeld t = false := by
 unfold structTy at h
 split at h
 · rename_i fs hu
   simp only [Bool.and_eq_true, Bool.not_eq_true', Array.all_eq_true'] at h
   exact ⟨⟨fs, hu, fun f hf => SimpleT.of (h.1 f hf)⟩, h.2⟩
 · simp at h
omit hT in
theorem intTy_of {t : TypeId} (h : intTy S t = true) : ∃ k, S.underlying t = some (.int k) := by
 unfold intTy at h
 split at h
 · rename_i k hu; exact ⟨k, hu⟩
 · simp at h
omit hT in
theorem sliceTy_of {t : TypeId} (h : sliceTy S t = true) : ∃ k, S.underlying t = some (.slice k) := by
 unfold sliceTy at h
 split at h
 · rename_i k hu; exact ⟨k, hu⟩
 · simp at h
omit hT in
theorem Fol.binOpEq {t : TypeId} {op : BinOp} (hop : op = .eql ∨ op = .neq) (heq : ∀ x y, Fol P S (Op.equal t x y)) (x y : Value) : Fol P S (Go.binOp op t x y) := by
 unfold Go.binOp
 rcases hop with rfl | rfl
 all_goals split
 all_goals first
   | contradiction
   | exact Fol.intCmp _ _ _
   | exact Fol.complexOp _ _ _ _ _ _
   | exact Fol.stringOp _ _ _
   | exact Fol.stuck _
   | (refine Fol.unsupported ?_; exact True.intro)
   | exact Fol.bind (heq _ _) fun _ => Fol.pure _
   | (refine Fol.ite (Fol.stuck _) ?_; exact Fol.complexOp _ _ _ _ _ _)
   | (refine Fol.ite (Fol.stuck _) ?_; exact Fol.intCmp _ _ _)
   | (refine Fol.ite (Fol.stuck _) ?_; exact Fol.floatCmp _ _ _ _)
   | (simp at *; done)
theorem alike_eq : ∀ n : Nat, S.alikeButTags n = P.alikeButTags n
 | 0 => rfl
 | n + 1 => by
   funext t u
   unfold Program.alikeButTags
   simp only [info_eq hT, alike_eq n]
theorem underId_eq (t : TypeId) : P.underlyingId t = S.underlyingId t := by unfold Program.underlyingId; rw [info_eq hT]
theorem stoodIn_eq (t : TypeId) : S.stoodInHeld t = P.stoodInHeld t := by
 unfold Program.stoodInHeld Program.stoodInAs
 simp only [info_eq hT, under_eq hT, alike_eq hT, underId_eq hT, depth_eq hT, hT]
omit hT in
theorem Fol1.ofProgram {k : Program → Sem Next} (he : k P = k S) (hk : Fol1 P S (k S)) : Fol1 P S (Go.program >>= k) :=
 ⟨Fol.ofProgram he hk.fol, fun v es a v' es' hs hx => hk.next v es a v' es' hs hx⟩
omit hT in
theorem Fol1.halted {x : Halt} (hc : calmHalt x) : Fol1 P S (Sem.halt x) := Fol1.dead (Dead.halt hc)
omit hT in
theorem Fol1.bind {s : Sem α} {f : α → Sem Next} (hs : Fol P S s) (hf : ∀ a, Fol1 P S (f a)) : Fol1 P S (s >>= f) := by
 refine ⟨Fol.bind hs fun a => (hf a).fol, fun v es b v' es' hsw h => ?_⟩
 rw [bind_runT] at h
 cases hx : s.runT S v es with
 | mk r es1 =>
   rw [hx] at h
   cases r with
   | halt y v1 => simp at h
   | ok a v1 => exact (hf a).next v1 es1 b v' es' (hs.mono v es a v1 es1 hsw hx).2.1 h
theorem Fol1.runtimePanic (e : RuntimeError) : Fol1 P S (Go.runtimePanic e) := by
 refine ⟨Fol.runtimePanic hT e, fun v es a v' es' hs hx => ?_⟩
 have hd : Dead S (Go.runtimePanic e : Sem Next) := by
   unfold Go.runtimePanic
   refine Dead.ofProgram ?_
   have hg : ∀ v, Dead S (Go.goPanic v : Sem Next) := fun v => Dead.halt trivial
   cases e with
   | bounds x y s c => exact hg _
   | error m => exact hg _
   | plain m => exact hg _
   | nilDeref => exact hg _
   | typeAssertion i c a m => exact Dead.bind (P := P) (Fol.elemOf hT _) fun _ => Dead.bind (P := P) (Fol.newVar _ _) fun _ => hg _
   | panicNil => exact Dead.bind (P := P) (Fol.elemOf hT _) fun _ => Dead.bind (P := P) (Fol.newVar _ _) fun _ => hg _
   | unhashable t => exact hg _
 exact absurd hx (hd.no v es a v' es' hs)
theorem Fol1.execOp (T : Twin P S) (ρ : Operand → Value) (o : Oper) (h : opOk S o = true) (hρ : ∀ n, ρ (.func n) = .func (.func n) #[] #[]) (hρc : ∀ c, ρ (.const c) = c) : Fol1 P S (Go.execOp ρ o) := by
 unfold Go.execOp
 unfold opOk at h
 cases hop : o.op <;> rw [hop] at h <;> dsimp only <;> first | (exact absurd h Bool.false_ne_true) | skip
 case move x => exact Fol1.pureValue _
 case assign x => exact Fol1.pureValue _
 case pick c a b => exact Fol1.bind (Fol.asBool _) fun _ => Fol1.pureValue _
 case alloc e => exact Fol1.value (by unfold Instr.alloc; exact Fol.bind (Fol.zeroValue hT _) fun _ => Fol.bind (Fol.newVar _ _) fun _ => Fol.pure _)
 case box e x => exact Fol1.value (Fol.bind (Fol.newVar _ _) fun _ => Fol.pure _)
 case build t ps => exact Fol1.value (Fol.build hT _ _)
 case buildSlice t n ps => exact Fol1.value (Fol.buildSlice hT _ _ _)
 case load t a => exact Fol1.value (Fol.bind (Fol.sureAddr _) fun _ => Fol.loadVar hT _ _)
 case store t a x => exact Fol1.skip (Fol.bind (Fol.sureAddr _) fun _ => Fol.storeVar hT _ _ _)
 case nilCheck x =>
   repeat' (first
     | exact Fol1.pureValue _
     | exact Fol1.runtimePanic hT _
     | exact Fol1.halted trivial
     | (refine Fol1.ofProgram (by rw [hT]) (Fol1.bind (Fol.nilAhead hT _ _ _ _) fun r => ?_))
     | exact Fol1.dead (Dead.thenAny (Dead.unsupported trivial))
     | split)
 case binOp op t x y z =>
   simp only [Bool.and_eq_true, Bool.or_eq_true, Bool.not_eq_true', beq_iff_eq] at h
   refine Fol1.value (Fol.bind (Fol.eqGuard hT _ h.2 _ _ _ _) fun _ => ?_)
   have hs : ∀ {t : TypeId}, simpleTy S t = true → ∀ x y, Fol P S (Op.equal t x y) := fun ht x y => Fol.equalSimple hT T.glob (SimpleT.of ht) 9999 x y
   have hst : ∀ {t : TypeId}, structTy S t = true → ∀ x y, Fol P S (Op.equal t x y) := fun {t} ht x y => by
     have h1 := (StructT.of ht).2
     have h2 : P.stoodInHeld t = false := by rw [← stoodIn_eq hT]; exact h1
     exact Fol.equalStruct hT T.glob (StructT.of ht).1 h1 h2 9998 x y
   rcases h.1 with ⟨⟨h1, h2⟩, h3⟩ | ⟨h1, h2 | h2⟩
   · exact Fol.binOp hT T.glob (intTy_of h2) h1 (hs h3) _ _
   · exact Fol.binOpEq h1 (hs h2) _ _
   · exact Fol.binOpEq h1 (hst h2) _ _
 case unOp op t x =>
   cases op <;> first | (exact absurd h Bool.false_ne_true) | exact Fol1.value (Fol.unaryNot _)
 case range t x =>
   cases x with
   | const c =>
     cases c with
     | string s =>
       have hs0 : s = ⟨#[]⟩ := by
         have h0 : s.size = 0 := by simpa using h
         obtain ⟨a⟩ := s
         rw [Array.eq_empty_of_size_eq_zero h0]
       refine Fol1.value ?_
       rw [hρc, hs0]
       unfold Instr.range
       have hh : Fol P S (Go.newObj (.stringIter ⟨#[]⟩ 0)) := Fol.newPlain (.inr (.inr rfl))
       refine Fol.bind (Fol.underlying hT _) fun d => ?_
       cases d <;> first
         | exact (show Fol P S (Go.newObj (.stringIter ⟨#[]⟩ 0) >>= fun r => Pure.pure (Value.pointer (some ⟨r, 0, none⟩))) from Fol.bind hh fun _ => Fol.pure _)
         | exact Dead.fol (Dead.thenAny (show Dead S (Go.stuck _ : Sem Obj) from Dead.halt trivial))
     | _ => exact absurd h Bool.false_ne_true
   | _ => exact absurd h Bool.false_ne_true
 case convert s d x =>
   simp only [Bool.and_eq_true] at h
   obtain ⟨k, hk⟩ := intTy_of h.1
   obtain ⟨k', hk'⟩ := intTy_of h.2
   exact Fol1.value (Fol.convertInt hT hk hk' _)
 case makeSlice t l c => exact Fol1.value (Fol.makeSlice hT _ _ _)
 case slice t x lo hi mx => exact Fol1.value (Fol.sliceAt hT _ _ _ _ _)
 case fieldAddr s x f =>
   refine Fol1.value (Fol.fieldAt hT ?_ _)
   intro fs g t h1 h2 h3
   unfold fieldOk at h
   simp only [h1, h2, h3] at h
   simpa using h
 case indexAddr t x ix => exact Fol1.value (Fol.indexAt hT _ _ _)
 case extract t ix => exact Fol1.value (Fol.extract _ _)
 case call c =>
   obtain ⟨callee, args, argTypes⟩ := c
   cases callee with
   | value f =>
     cases f <;> first | (exact absurd h Bool.false_ne_true) | skip
     simp only [resolve, hρ, Deferred.ofValue, pure_bind, invoke]
     refine Fol1.callFunc T _ _ fun g hg => ?_
     dsimp only at h
     rw [hg] at h
     simpa using h
   | invoke r n => exact absurd h Bool.false_ne_true
   | builtin b =>
     simp only [resolve, pure_bind, invoke]
     cases b <;> first | (exact absurd h Bool.false_ne_true) | skip
     all_goals unfold Go.builtin; dsimp only
     · cases h1 : argTypes[1]? with
       | none => exact Fol1.value (Fol.append hT (fun t1 h2 => by rw [h1] at h2; cases h2) _ _)
       | some t1 =>
         simp only [h1, Option.all_some, Bool.or_eq_true] at h
         rcases h with h | h
         · obtain ⟨k, hk⟩ := sliceTy_of h
           refine Fol1.value (Fol.append hT (fun t2 h2 => ?_) _ _)
           rw [h1] at h2
           obtain rfl := Option.some.inj h2
           exact ⟨_, hk, by simp⟩
         · obtain ⟨k, hk⟩ := intTy_of h
           exact Fol1.value (Fol.appendMake hT h1 hk _ _)
     · refine Fol1.value (Fol.lenSlice hT ?_)
       intro t1 h1
       simp only [h1, Option.all_some] at h
       exact sliceTy_of h
     · exact Fol1.value (Fol.max_ _ _ _)
     · exact Fol1.value (Fol.min_ _ _ _)
end
end Go.Proofs.Ytcoppnbjpncdcaa.Sim
end
section
namespace Go.Proofs.Ytcoppnbjpncdcaa.Sim
open Go
structure Hole where
 fn : FuncId
 a : Code
 b : Code
def okCode (S : Program) : Code → Bool
 | .skip | .ret | .exit _ | .refuse _ => true
 | .region _ ops _ => ops.all (opOk S)
 | .seq a b => okCode S a && okCode S b
 | .cond _ a b => okCode S a && okCode S b
 | .block _ b | .loop b => okCode S b
 | _ => false
def okItem (S : Program) : Item → Bool
 | .code c => okCode S c
 | .inBlock _ => true
 | .inLoop b => okCode S b
 | .inRegion ops _ => ops.all (opOk S)
 | _ => false
inductive CodeRel (S : Program) (K : Hole) (f : FuncId) : Code → Code → Prop
 | hole : f = K.fn → CodeRel S K f K.a K.b
 | seq {x y z : Code} : okCode S x = true → CodeRel S K f y z → CodeRel S K f (.seq x y) (.seq x z)
inductive TodoRel (S : Program) (K : Hole) (f : FuncId) : List Item → List Item → Prop
 | nil : TodoRel S K f [] []
 | cons {a : Item} {l l' : List Item} : okItem S a = true → TodoRel S K f l l' → TodoRel S K f (a :: l) (a :: l')
 | code {c c' : Code} : CodeRel S K f c c' → TodoRel S K f [.code c] [.code c']
structure Twins (P S : Program) (K : Hole) : Prop extends Twin P S where
 size : S.funcs.size = P.funcs.size
 like : ∀ (f : FuncId) (fn : Func), S.funcs[f]? = some fn → fn = blank ∨ ∃ (fn' : Func) (b b' : Code), P.funcs[f]? = some fn' ∧ fn'.ntmps = fn.ntmps ∧ fn'.results = fn.results ∧
   fn.body = some b ∧ fn'.body = some b' ∧ ((b' = b ∧ okCode S b = true) ∨ CodeRel S K f b b')
structure FrRel (S : Program) (K : Hole) (fr fr' : Frame) : Prop where
 fn : fr'.fn = fr.fn
 tmps : fr'.tmps = fr.tmps
 mode : fr'.mode = fr.mode
 plain : fr.defers = [] ∧ fr.kind = .normal ∧ fr.roundOf = none
 plain' : fr'.defers = [] ∧ fr'.kind = .normal ∧ fr'.roundOf = none
 known : ∃ f : Func, S.funcs[fr.fn]? = some f ∧ f.body.isSome = true ∧ fr.tmps.size = f.ntmps
 todo : TodoRel S K fr.fn fr.todo fr'.todo
inductive CsRel (S : Program) (K : Hole) : List Frame → List Frame → Prop
 | nil : CsRel S K [] []
 | cons {fr fr' : Frame} {l l' : List Frame} : FrRel S K fr fr' → fr.mode = .run → CsRel S K l l' → CsRel S K (fr :: l) (fr' :: l')
section
variable {P S : Program} {K : Hole}
theorem TodoRel.ok {f : FuncId} : ∀ {l : List Item}, l.all (okItem S) = true → TodoRel S K f l l
 | [], _ => .nil
 | a :: l, h => by
   simp only [List.all_cons, Bool.and_eq_true] at h
   exact .cons h.1 (TodoRel.ok h.2)
theorem exitTo_rel {f : FuncId} {id : Nat} : ∀ {l l' : List Item}, TodoRel S K f l l' →
   (exitTo id l = none ∧ exitTo id l' = none) ∨ ∃ k k', exitTo id l = some k ∧ exitTo id l' = some k' ∧ TodoRel S K f k k'
 | _, _, .nil => .inl ⟨rfl, rfl⟩
 | _, _, .code _ => .inl ⟨rfl, rfl⟩
 | a :: l, _ :: l', .cons h t => by
   cases a with
   | inBlock id' =>
     by_cases he : (id' == id) = true
     · exact .inr ⟨l, l', by simp [exitTo, he], by simp [exitTo, he], t⟩
     · simpa [exitTo, he] using exitTo_rel t
   | _ => simpa [exitTo] using exitTo_rel t
theorem FrRel.finish {fr fr' : Frame} (h : FrRel S K fr fr') (x : Value) : FrRel S K (fr.finish x) (fr'.finish x) ∧ (fr.finish x).mode = fr.mode := by
 obtain ⟨h1, h2, h3, h4, h5, h6, h7⟩ := h
 obtain ⟨fn, tmps, todo, defers, mode, kind, ro⟩ := fr
 obtain ⟨fn', tmps', todo', defers', mode', kind', ro'⟩ := fr'
 simp only at h1 h2 h3 h4 h5 h6 h7
 subst h1; subst h2; subst h3
 cases h7 with
 | nil => exact ⟨⟨rfl, rfl, rfl, h4, h5, h6, .nil⟩, rfl⟩
 | code hc => exact ⟨⟨rfl, rfl, rfl, h4, h5, h6, .code hc⟩, rfl⟩
 | @cons a l l' ha ht =>
   cases a with
   | inRegion ops is =>
     cases is with
     | nil => exact ⟨⟨rfl, rfl, rfl, h4, h5, h6, .cons ha ht⟩, rfl⟩
     | cons i is =>
       refine ⟨⟨rfl, rfl, rfl, h4, h5, ?_, .cons ha ht⟩, rfl⟩
       obtain ⟨f, q1, q2, q3⟩ := h6
       refine ⟨f, q1, q2, ?_⟩
       simp only [Frame.finish]
       split <;> simpa using q3
   | code c => exact ⟨⟨rfl, rfl, rfl, h4, h5, h6, .cons ha ht⟩, rfl⟩
   | inBlock c => exact ⟨⟨rfl, rfl, rfl, h4, h5, h6, .cons ha ht⟩, rfl⟩
   | inLoop c => exact ⟨⟨rfl, rfl, rfl, h4, h5, h6, .cons ha ht⟩, rfl⟩
   | _ => cases ha
theorem seen_sub (p : Program) (f : FuncId) (es : Array Event) : ∀ e ∈ seen p f es, e ∈ es := by
 intro e he
 have key : ∀ (g : Bool × Array Event → Event → Bool × Array Event) (_ : ∀ x e, (g x e).2 = x.2 ∨ (g x e).2 = x.2.push e) (l : List Event) (x : Bool × Array Event), ∀ e ∈ (l.foldl g x).2, e ∈ x.2 ∨ e ∈ l := by
   intro g hg l
   induction l with
   | nil => intro x e he; exact .inl he
   | cons a l ih =>
     intro x e he
     rw [List.foldl_cons] at he
     rcases ih _ e he with h | h
     · rcases hg x a with h' | h'
       · rw [h'] at h; exact .inl h
       · rw [h'] at h
         rcases Array.mem_push.1 h with h | rfl
         · exact .inl h
         · exact .inr (List.mem_cons_self ..)
     · exact .inr (List.mem_cons_of_mem _ h)
 unfold seen at he
 dsimp only at he
 rw [← Array.foldl_toList] at he
 rcases key _ (fun x e => by split <;> first | exact .inl rfl | (split <;> first | exact .inl rfl | exact .inr rfl) | (dsimp only; split <;> first | exact .inl rfl | exact .inr rfl)) es.toList _ e he with h | h
 · simp at h
 · simpa using h
def Follows (P S : Program) (K : Hole) (c0 : Frame) (base : List Frame) (fr fr' : Frame) (l l' : List Frame) (v : World) : Prop :=
 (∃ o v1 es1, stepG S true { frame := fr, callers := l ++ [c0], status := .running, dying := none } v = .ended o v1 es1) ∨
 (∃ fr1 v1 es1 ch, stepG S true { frame := fr, callers := l ++ [c0], status := .running, dying := none } v = .go { frame := fr1, callers := l ++ [c0], status := .running, dying := none } v1 es1 ∧
   fr1.mode = .panicking ch ∧ fr1.defers = [] ∧ fr1.fn = fr.fn) ∨
 ∃ fr1 l1 fr1' l1' v1 es1, stepG S true { frame := fr, callers := l ++ [c0], status := .running, dying := none } v = .go { frame := fr1, callers := l1 ++ [c0], status := .running, dying := none } v1 es1 ∧
   FrRel S K fr1 fr1' ∧ (fr1.mode = .run ∨ fr1.mode = .returning) ∧ CsRel S K l1 l1' ∧ SW v1 ∧ v.drawn ≤ v1.drawn ∧ v1.tape = v.tape ∧
   ∀ (J : Nat → Prop) (w : World), Rel J w v → (∀ j q, v.drawn + j < v1.drawn → w.tape (w.drawn + j) q = v.tape (v.drawn + j) q) →
     ∃ w1 es1' es2, stepG P true { frame := fr', callers := l' ++ base, status := .running, dying := none } w = .go { frame := fr1', callers := l1' ++ base, status := .running, dying := none } w1 es1' ∧
       After J w v w1 v1 #[] es2 ∧ ∀ e ∈ es1', e ∈ es2
theorem Follows.ctl {c0 : Frame} {base : List Frame} {fr fr' fr1 fr1' : Frame} {l l' : List Frame} {v : World} (hsw : SW v)
   (hS : ∀ u, stepG S true { frame := fr, callers := l ++ [c0], status := .running, dying := none } u = .go { frame := fr1, callers := l ++ [c0], status := .running, dying := none } u)
   (hP : ∀ u, stepG P true { frame := fr', callers := l' ++ base, status := .running, dying := none } u = .go { frame := fr1', callers := l' ++ base, status := .running, dying := none } u)
   (h : FrRel S K fr1 fr1') (hm : fr1.mode = .run ∨ fr1.mode = .returning) (hl : CsRel S K l l') : Follows P S K c0 base fr fr' l l' v :=
 .inr (.inr ⟨fr1, l, fr1', l', v, #[], hS v, h, hm, hl, hsw, Nat.le_refl _, rfl, fun J w hr _ => ⟨w, #[], #[], hP w, .refl hr _, by simp⟩⟩)
theorem step_code {c0 : Frame} {base : List Frame} {fr fr' : Frame} {l l' : List Frame} {v : World} (hsw : SW v) (h : FrRel S K fr fr') (hm : fr.mode = .run) (hl : CsRel S K l l')
   (hT : S.toTables = P.toTables)
   (hn : ∀ ops i k q, fr.todo ≠ .inRegion ops (i :: q) :: k) (hh : ¬ (fr.todo = [.code K.a] ∧ fr'.todo = [.code K.b])) : Follows P S K c0 base fr fr' l l' v := by
 obtain ⟨h1, h2, h3, ⟨h4a, h4b, h4c⟩, ⟨h5a, h5b, h5c⟩, h6, h7⟩ := h
 obtain ⟨fn0, tmps0, todo, defers, mode, kind, ro⟩ := fr
 obtain ⟨fn, tmps, todo', defers', mode', kind', ro'⟩ := fr'
 simp only at h1 h2 h3 h4a h4b h4c h5a h5b h5c h6 h7 hm hn hh
 subst h1 h2 h3 h4a h4b h4c h5a h5b h5c hm
 have pl : ∀ {t t' : List Item} {m : FrameMode}, TodoRel S K fn t t' → FrRel S K { fn := fn, tmps := tmps, todo := t, defers := [], mode := m, kind := .normal, roundOf := none } { fn := fn, tmps := tmps, todo := t', defers := [], mode := m, kind := .normal, roundOf := none } :=
   fun ht => ⟨rfl, rfl, rfl, ⟨rfl, rfl, rfl⟩, ⟨rfl, rfl, rfl⟩, h6, ht⟩
 have cx : ∀ {t t' : List Item} {m : FrameMode} (_ : TodoRel S K fn t t') (_ : m = .run ∨ m = .returning)
     (_ : ∀ cs u, stepG S true { frame := { fn := fn, tmps := tmps, todo := todo, defers := [], mode := .run, kind := .normal, roundOf := none }, callers := cs, status := .running, dying := none } u =
       .go { frame := { fn := fn, tmps := tmps, todo := t, defers := [], mode := m, kind := .normal, roundOf := none }, callers := cs, status := .running, dying := none } u)
     (_ : ∀ cs u, stepG P true { frame := { fn := fn, tmps := tmps, todo := todo', defers := [], mode := .run, kind := .normal, roundOf := none }, callers := cs, status := .running, dying := none } u =
       .go { frame := { fn := fn, tmps := tmps, todo := t', defers := [], mode := m, kind := .normal, roundOf := none }, callers := cs, status := .running, dying := none } u),
     Follows P S K c0 base { fn := fn, tmps := tmps, todo := todo, defers := [], mode := .run, kind := .normal, roundOf := none } { fn := fn, tmps := tmps, todo := todo', defers := [], mode := .run, kind := .normal, roundOf := none } l l' v :=
   fun ht hm hS hP => .ctl hsw (hS _) (hP _) (pl ht) hm hl
 cases h7 with
 | nil => exact cx .nil (.inr rfl) (fun _ _ => rfl) (fun _ _ => rfl)
 | code hc =>
   cases hc with
   | hole => exact absurd ⟨rfl, rfl⟩ hh
   | seq hx hy => exact cx (.cons (by exact hx) (.code hy)) (.inl rfl) (fun _ _ => rfl) (fun _ _ => rfl)
 | @cons a k k' ha ht =>
   cases a with
   | inBlock id => exact cx ht (.inl rfl) (fun _ _ => rfl) (fun _ _ => rfl)
   | inLoop b => exact cx (.cons (by exact ha) (.cons (by exact ha) ht)) (.inl rfl) (fun _ _ => rfl) (fun _ _ => rfl)
   | inRegion ops is =>
     cases is with
     | nil => exact cx ht (.inl rfl) (fun _ _ => rfl) (fun _ _ => rfl)
     | cons i q => exact absurd rfl (hn ops i k q)
   | code c =>
     cases c with
     | skip => exact cx ht (.inl rfl) (fun _ _ => rfl) (fun _ _ => rfl)
     | ret => exact cx (.cons ha ht) (.inr rfl) (fun _ _ => rfl) (fun _ _ => rfl)
     | seq x y =>
       simp only [okItem, okCode, Bool.and_eq_true] at ha
       exact cx (.cons (by exact ha.1) (.cons (by exact ha.2) ht)) (.inl rfl) (fun _ _ => rfl) (fun _ _ => rfl)
     | block id b => exact cx (.cons (by exact ha) (.cons rfl ht)) (.inl rfl) (fun _ _ => rfl) (fun _ _ => rfl)
     | loop b => exact cx (.cons (by exact ha) (.cons (by exact ha) ht)) (.inl rfl) (fun _ _ => rfl) (fun _ _ => rfl)
     | refuse why => exact .inl ⟨_, _, _, rfl⟩
     | exit id =>
       rcases exitTo_rel (id := id) ht with ⟨e1, e2⟩ | ⟨q, q', e1, e2, e3⟩
       · exact .inl ⟨_, _, _, by simp only [stepG, stepG.exec, e1]; exact rfl⟩
       · exact cx e3 (.inl rfl) (fun _ _ => by simp [stepG, stepG.exec, e1]) (fun _ _ => by simp [stepG, stepG.exec, e2])
     | cond c x y =>
       simp only [okItem, okCode, Bool.and_eq_true] at ha
       have ev : ∀ (t : List Item), (Frame.mk fn tmps t [] .run .normal none).eval c = Frame.eval (Frame.mk fn tmps k [] .run .normal none) c := fun t => by cases c <;> rfl
       cases hb : Frame.eval (Frame.mk fn tmps k [] .run .normal none) c with
       | bool b =>
         have e1 : ∀ (p : Program) (k2 : List Item) cs u, stepG p true { frame := { fn := fn, tmps := tmps, todo := .code (.cond c x y) :: k2, defers := [], mode := .run, kind := .normal, roundOf := none }, callers := cs, status := .running, dying := none } u =
           .go { frame := { fn := fn, tmps := tmps, todo := .code (if b then x else y) :: k2, defers := [], mode := .run, kind := .normal, roundOf := none }, callers := cs, status := .running, dying := none } u := by
           intro p k2 cs u
           simp only [stepG, stepG.exec, ev, hb]
         exact cx (.cons (by cases b with | true => exact ha.1 | false => exact ha.2) ht) (.inl rfl) (fun cs u => e1 S k cs u) (fun cs u => e1 P k' cs u)
       | _ => exact .inl ⟨_, _, _, by simp only [stepG, stepG.exec, ev, hb]; exact rfl⟩
     | region id ops draw =>
       cases draw with
       | false =>
         exact cx (.cons (by exact ha) ht) (.inl rfl) (fun _ _ => rfl) (fun _ _ => rfl)
       | true =>
         have hrun : ∀ (p : Program) (u : World), (choose (.order fn id)).run p u =
             if (Question.order fn id).forced then .ok 0 u else .ok ((Question.order fn id).cut (u.tape u.drawn (Question.order fn id))) { u with drawn := u.drawn + 1 } := by
           intro p u
           simp only [choose, Sem.run]
         have hst : ∀ (p : Program) (k2 : List Item) cs u, stepG p true { frame := { fn := fn, tmps := tmps, todo := .code (.region id ops true) :: k2, defers := [], mode := .run, kind := .normal, roundOf := none }, callers := cs, status := .running, dying := none } u =
             match (choose (.order fn id)).run p u with
             | .ok t u' => .go { frame := { fn := fn, tmps := tmps, todo := .inRegion ops (Region.schedule (p.follows .mixedOrders) ops t) :: k2, defers := [], mode := .run, kind := .normal, roundOf := none }, callers := cs, status := .running, dying := none } u'
             | .halt _ u' => .ended (.stuck "order" (Frame.pos p { fn := fn, tmps := tmps, todo := .code (.region id ops true) :: k2, defers := [], mode := .run, kind := .normal, roundOf := none })) u' := fun _ _ _ _ => rfl
         have hfol : S.follows .mixedOrders = P.follows .mixedOrders := by rw [show S.follows = S.toTables.follows from rfl, hT]
         by_cases hq : (Question.order fn id).forced = true
         · refine cx (t := .inRegion ops (Region.schedule (S.follows .mixedOrders) ops 0) :: k) (t' := .inRegion ops (Region.schedule (S.follows .mixedOrders) ops 0) :: k') (.cons (by exact ha) ht) (.inl rfl) (fun cs u => ?_) (fun cs u => ?_)
           · rw [hst, hrun, if_pos hq]
           · rw [hst, hrun, if_pos hq, hfol]
         · refine .inr (.inr ⟨_, l, { fn := fn, tmps := tmps, todo := .inRegion ops (Region.schedule (S.follows .mixedOrders) ops ((Question.order fn id).cut (v.tape v.drawn (Question.order fn id)))) :: k', defers := [], mode := .run, kind := .normal, roundOf := none }, l', { v with drawn := v.drawn + 1 }, #[], ?_, pl (.cons (a := .inRegion ops (Region.schedule (S.follows .mixedOrders) ops ((Question.order fn id).cut (v.tape v.drawn (Question.order fn id))))) (by exact ha) ht), .inl rfl, hl, hsw, Nat.le_succ _, rfl, fun J w hr hag => ⟨{ w with drawn := w.drawn + 1 }, #[], #[], ?_, ⟨⟨hr.size, hr.low, hr.blk⟩, rfl, rfl, ?_, rfl, rfl, fun _ _ => rfl, ⟨#[], by simp, by simp⟩, Nat.le_refl _⟩, by simp⟩⟩)
           · rw [hst, hrun, if_neg hq]
           · rw [hst, hrun, if_neg hq]
             have := hag 0 (Question.order fn id) (by simp)
             simp only [Nat.add_zero] at this
             rw [this, hfol]
           · show w.drawn + 1 + v.drawn = w.drawn + (v.drawn + 1)
             omega
     | _ => cases ha
   | _ => cases ha
theorem apply_value {p : Program} {fr : Frame} (hk : fr.kind = .normal) {cs : List Frame} {s : Sem Next} {u u' : World} {x : Value} {es : Array Event} (h : s.runT p u #[] = (.ok (.value x) u', es)) :
   stepG.apply p true fr cs none s u = .go { frame := fr.finish x, callers := cs, status := .running, dying := none } u' (seen p fr.fn es) := by
 unfold stepG.apply
 simp only [if_true, h, hk]
 simp [GStep.after]
theorem apply_skip {p : Program} {fr : Frame} (hk : fr.kind = .normal) {cs : List Frame} {s : Sem Next} {u u' : World} {es : Array Event} (h : s.runT p u #[] = (.ok .skip u', es)) :
   stepG.apply p true fr cs none s u = .go { frame := fr.finish undef, callers := cs, status := .running, dying := none } u' (seen p fr.fn es) := by
 unfold stepG.apply
 simp only [if_true, h, hk]
 simp [GStep.after]
theorem apply_enter {p : Program} {fr : Frame} (hk : fr.kind = .normal) {ops : Array Oper} {is : List Nat} {k : List Item} (ht : fr.todo = .inRegion ops is :: k) {cs : List Frame} {s : Sem Next} {u u' : World} {f : FuncId} {args : Array Value} {es : Array Event} (h : s.runT p u #[] = (.ok (.enter f args) u', es)) :
   stepG.apply p true fr cs none s u = .go { frame := Frame.enter p f args .normal, callers := fr :: cs, status := .running, dying := none } u' (seen p fr.fn es) := by
 unfold stepG.apply
 simp only [if_true, h, hk, ht]
 simp [GStep.after]
theorem apply_halt {p : Program} {fr : Frame} (hk : fr.kind = .normal) (hm : fr.mode = .run) {cs : List Frame} {s : Sem Next} {u u' : World} {x : Halt} {es : Array Event} (hc : calmHalt x) (h : s.runT p u #[] = (.halt x u', es)) :
   (∃ o es', stepG.apply p true fr cs none s u = .ended o u' es') ∨ ∃ ch es', stepG.apply p true fr cs none s u = .go { frame := { fr with mode := .panicking ch }, callers := cs, status := .running, dying := none } u' es' := by
 obtain ⟨fn, tmps, todo, defers, mode, kind, ro⟩ := fr
 simp only at hk hm
 subst hk hm
 unfold stepG.apply
 simp only [if_true, h]
 cases x with
 | panic v => exact .inr ⟨_, _, rfl⟩
 | stuck m => exact .inl ⟨_, _, rfl⟩
 | unsupported y =>
   cases y with
   | initOrder g => exact hc.elim
   | _ => exact .inl ⟨_, _, rfl⟩
 | _ => exact hc.elim
theorem step_oper {c0 : Frame} {base : List Frame} {fr fr' : Frame} {l l' : List Frame} {v : World} (T : Twins P S K) (hsw : SW v) (h : FrRel S K fr fr') (hm : fr.mode = .run) (hl : CsRel S K l l')
   {ops : Array Oper} {i : Nat} {q : List Nat} {k : List Item} (ht : fr.todo = .inRegion ops (i :: q) :: k) : Follows P S K c0 base fr fr' l l' v := by
 have hT := T.tab
 have hfin := h.finish
 have hrel := h
 obtain ⟨h1, h2, h3, ⟨h4a, h4b, h4c⟩, ⟨h5a, h5b, h5c⟩, h6, h7⟩ := h
 obtain ⟨fn0, tmps0, todo, defers, mode, kind, ro⟩ := fr
 obtain ⟨fn, tmps, todo', defers', mode', kind', ro'⟩ := fr'
 simp only at h1 h2 h3 h4a h4b h4c h5a h5b h5c h6 h7 hm ht
 subst h1 h2 h3 h4a h4b h4c h5a h5b h5c hm ht
 cases h7 with
 | @cons _ _ k' ha ht =>
 by_cases hw : ((ops[i]?).map (Region.wanted · (yielded ops tmps))).getD false = true
 · cases ho : ops[i]? with
   | none => rw [ho] at hw; cases hw
   | some o =>
     have hok : opOk S o = true := by
       have := Array.all_eq_true'.1 (show ops.all (opOk S) = true from ha) o (Array.mem_of_getElem? ho)
       exact this
     have ev : ∀ (k2 : List Item), (Frame.mk fn tmps (.inRegion ops (i :: q) :: k2) [] .run .normal none).eval = Frame.eval (Frame.mk fn tmps [] [] .run .normal none) := fun k2 => by funext c; cases c <;> rfl
     have hF := Fol1.execOp hT T.toTwin (Frame.eval (Frame.mk fn tmps [] [] .run .normal none)) o hok (fun _ => rfl) (fun _ => rfl)
     have hst : ∀ (p : Program) (k2 : List Item) cs u, stepG p true { frame := { fn := fn, tmps := tmps, todo := .inRegion ops (i :: q) :: k2, defers := [], mode := .run, kind := .normal, roundOf := none }, callers := cs, status := .running, dying := none } u =
         stepG.apply p true { fn := fn, tmps := tmps, todo := .inRegion ops (i :: q) :: k2, defers := [], mode := .run, kind := .normal, roundOf := none } cs none (execOp (Frame.eval (Frame.mk fn tmps [] [] .run .normal none)) o) u := by
       intro p k2 cs u
       show (if ((ops[i]?).map (Region.wanted · (yielded ops tmps))).getD false then _ else _) = _
       rw [if_pos hw]
       show stepG.oper p true _ cs none u = _
       unfold stepG.oper
       have : (Frame.mk fn tmps (.inRegion ops (i :: q) :: k2) [] .run .normal none).oper? = some o := ho
       simp only [this, ev]
     cases hr : (execOp (Frame.eval (Frame.mk fn tmps [] [] .run .normal none)) o).runT S v #[] with
     | mk r es =>
     have hSst := hst S k (l ++ [c0]) v
     cases r with
     | halt x v1 =>
       have hcalm := hF.fol.calm v #[] x v1 es hsw hr
       rcases apply_halt (fr := { fn := fn, tmps := tmps, todo := .inRegion ops (i :: q) :: k, defers := [], mode := .run, kind := .normal, roundOf := none }) rfl rfl (cs := l ++ [c0]) hcalm hr with ⟨o', es', h'⟩ | ⟨ch, es', h'⟩
       · exact .inl ⟨_, _, _, hSst.trans h'⟩
       · exact .inr (.inl ⟨_, _, _, _, hSst.trans h', rfl, rfl, rfl⟩)
     | ok a v1 =>
       obtain ⟨m1, m2, m3, m4⟩ := hF.fol.mono v #[] a v1 es hsw hr
       have hnx := hF.next v #[] a v1 es hsw hr
       have go := fun (J : Nat → Prop) (w : World) (hrl : Rel J w v) hag => hF.fol.go J w v #[] #[] a v1 es hrl hr hag
       cases a with
       | value x =>
         refine .inr (.inr ⟨_, l, _, l', v1, _, hSst.trans (apply_value rfl hr), (hfin x).1, .inl (hfin x).2, hl, m2, m1, m3, fun J w hrl hag => ?_⟩)
         obtain ⟨w1, es1, r1, A1⟩ := go J w hrl hag
         exact ⟨w1, _, es1, (hst P k' (l' ++ base) w).trans (apply_value rfl r1), A1, seen_sub _ _ _⟩
       | skip =>
         refine .inr (.inr ⟨_, l, _, l', v1, _, hSst.trans (apply_skip rfl hr), (hfin undef).1, .inl (hfin undef).2, hl, m2, m1, m3, fun J w hrl hag => ?_⟩)
         obtain ⟨w1, es1, r1, A1⟩ := go J w hrl hag
         exact ⟨w1, _, es1, (hst P k' (l' ++ base) w).trans (apply_skip rfl r1), A1, seen_sub _ _ _⟩
       | enter f args =>
         obtain ⟨g, hg, hgb, hgs⟩ := hnx
         refine .inr (.inr ⟨Frame.enter S f args .normal, _ :: l, Frame.enter P f args .normal, _ :: l', v1, _, hSst.trans (apply_enter rfl rfl hr), ?_, .inl rfl, .cons hrel rfl hl, m2, m1, m3, fun J w hrl hag => ?_⟩)
         · rcases T.like f g hg with rfl | ⟨g', b, b', e1, e2, e3, e4, e5, e6⟩
           · cases hgb
           · refine ⟨rfl, by simp [Frame.enter, hg, e1, e2], rfl, ⟨rfl, rfl, rfl⟩, ⟨rfl, rfl, rfl⟩, ⟨g, hg, hgb, ?_⟩, ?_⟩
             · simp [Frame.enter, hg]; omega
             · simp only [Frame.enter, hg, e1, e4, e5, Option.bind_some, Option.getD_some]
               rcases e6 with ⟨rfl, h6⟩ | h6
               · exact .cons h6 .nil
               · exact .code h6
         · obtain ⟨w1, es1, r1, A1⟩ := go J w hrl hag
           exact ⟨w1, _, es1, (hst P k' (l' ++ base) w).trans (apply_enter rfl rfl r1), A1, seen_sub _ _ _⟩
       | _ => exact hnx.elim
 · have hst : ∀ (p : Program) (k2 : List Item) cs u, stepG p true { frame := { fn := fn, tmps := tmps, todo := .inRegion ops (i :: q) :: k2, defers := [], mode := .run, kind := .normal, roundOf := none }, callers := cs, status := .running, dying := none } u =
       .go { frame := Frame.finish { fn := fn, tmps := tmps, todo := .inRegion ops (i :: q) :: k2, defers := [], mode := .run, kind := .normal, roundOf := none } undef, callers := cs, status := .running, dying := none } u := by
     intro p k2 cs u
     show (if ((ops[i]?).map (Region.wanted · (yielded ops tmps))).getD false then _ else _) = _
     rw [if_neg hw]
   exact .ctl hsw (fun u => hst S k _ u) (fun u => hst P k' _ u) (hfin undef).1 (.inl (hfin undef).2) hl
theorem step_return {c0 : Frame} {base : List Frame} {fr fr' : Frame} {l l' : List Frame} {v : World} (T : Twins P S K) (hsw : SW v) (h : FrRel S K fr fr') (hm : fr.mode = .returning) (hl : CsRel S K l l') (hne : l ≠ []) : Follows P S K c0 base fr fr' l l' v := by
 have hT := T.tab
 obtain ⟨h1, h2, h3, ⟨h4a, h4b, h4c⟩, ⟨h5a, h5b, h5c⟩, h6, h7⟩ := h
 obtain ⟨fn0, tmps0, todo, defers, mode, kind, ro⟩ := fr
 obtain ⟨fn, tmps, todo', defers', mode', kind', ro'⟩ := fr'
 simp only at h1 h2 h3 h4a h4b h4c h5a h5b h5c h6 h7 hm
 subst h1 h2 h3 h4a h4b h4c h5a h5b h5c hm
 cases hl with
 | nil => exact absurd rfl hne
 | @cons c c' l l' hc hcm hl =>
 obtain ⟨g, hg, hgb, _⟩ := h6
 have hP : ∃ g' : Func, P.funcs[fn]? = some g' ∧ g'.results = g.results := by
   rcases T.like fn g hg with rfl | ⟨g', b, b', e1, e2, e3, e4, e5, e6⟩
   · cases hgb
   · exact ⟨g', e1, e3⟩
 obtain ⟨g', hg', hres⟩ := hP
 have hF : Fol P S (results g tmps) := by
   unfold results
   refine Fol.bind (Fol.mapM _ (fun x => ?_) _) fun _ => Fol.pure _
   cases x with
   | tmp t => exact Fol.pure _
   | cell a t => exact Fol.bind (Fol.asAddr hT _) fun _ => Fol.loadVar hT _ _
 have hres' : results g' tmps = results g tmps := by unfold results; rw [hres]
 have hst : ∀ (p : Program) (g0 : Func) (t : List Item) (c : Frame) cs u u' x es, p.funcs[fn]? = some g0 → (results g0 tmps).runT p u #[] = (.ok x u', es) →
     stepG p true { frame := { fn := fn, tmps := tmps, todo := t, defers := [], mode := .returning, kind := .normal, roundOf := none }, callers := c :: cs, status := .running, dying := none } u =
     .go { frame := c.finish x, callers := cs, status := .running, dying := none } u' (seen p fn es) := by
   intro p g0 t c cs u u' x es h1 h2
   simp only [stepG, unwind, h1, h2, doReturn, GStep.after]
   simp
 have hst2 : ∀ (p : Program) (g0 : Func) (t : List Item) cs u u' x es, p.funcs[fn]? = some g0 → (results g0 tmps).runT p u #[] = (.halt x u', es) →
     ∃ o es', stepG p true { frame := { fn := fn, tmps := tmps, todo := t, defers := [], mode := .returning, kind := .normal, roundOf := none }, callers := cs, status := .running, dying := none } u = .ended o u' es' := by
   intro p g0 t cs u u' x es h1 h2
   simp only [stepG, unwind, h1, h2]
   cases x <;> exact ⟨_, _, rfl⟩
 cases hr : (results g tmps).runT S v #[] with
 | mk r es =>
 cases r with
 | halt x v1 =>
   obtain ⟨o, es', h'⟩ := hst2 S g todo (c :: l ++ [c0]) v v1 x es hg hr
   exact .inl ⟨_, _, _, h'⟩
 | ok x v1 =>
   obtain ⟨m1, m2, m3, m4⟩ := hF.mono v #[] x v1 es hsw hr
   refine .inr (.inr ⟨c.finish x, l, c'.finish x, l', v1, _, hst S g todo c (l ++ [c0]) v v1 x es hg hr, (hc.finish x).1, .inl ((hc.finish x).2.trans hcm), hl, m2, m1, m3, fun J w hrl hag => ?_⟩)
   obtain ⟨w1, es1, r1, A1⟩ := hF.go J w v #[] #[] x v1 es hrl hr hag
   exact ⟨w1, _, es1, hst P g' todo' c' (l' ++ base) w w1 x es1 hg' (hres' ▸ r1), A1, seen_sub _ _ _⟩
theorem step_follow {c0 : Frame} {base : List Frame} {fr fr' : Frame} {l l' : List Frame} {v : World} (T : Twins P S K) (hsw : SW v) (h : FrRel S K fr fr') (hl : CsRel S K l l')
   (hm : (fr.mode = .run ∧ ¬ (fr.todo = [.code K.a] ∧ fr'.todo = [.code K.b])) ∨ (fr.mode = .returning ∧ l ≠ [])) : Follows P S K c0 base fr fr' l l' v := by
 rcases hm with ⟨hm, hh⟩ | ⟨hm, hne⟩
 · by_cases hi : ∃ ops i k q, fr.todo = .inRegion ops (i :: q) :: k
   · obtain ⟨ops, i, k, q, ht⟩ := hi
     exact step_oper T hsw h hm hl ht
   · exact step_code hsw h hm hl T.tab (fun ops i k q ht => hi ⟨ops, i, k, q, ht⟩) hh
 · exact step_return T hsw h hm hl hne
end
end Go.Proofs.Ytcoppnbjpncdcaa.Sim
end
section
namespace Go.Proofs.Ytcoppnbjpncdcaa.Sim
open Go
def noWay (S : Program) : Frame := { fn := S.funcs.size, tmps := #[undef], todo := [.call { target := .nil, args := #[] } false "fmt's door to nowhere" #[]], defers := [], mode := .run, kind := .normal }
def _root_.Go.World.re (v : World) (τ : Nat → Question → Nat) : World := { v with tape := τ }
def K0 (S : Program) : Hole := ⟨S.funcs.size, .scope .skip, .scope .skip⟩
def gor (fr : Frame) (cs : List Frame) : Goroutine := { frame := fr, callers := cs, status := .running, dying := none }
section
variable {S : Program}
theorem Rel.self {v : World} (h : SW v) : Rel (fun b => v.heap[b]? = some weird) v v := by
 refine ⟨rfl, fun b hb => (Array.getElem?_eq_some_iff.1 hb).1, fun b o ho => ?_⟩
 by_cases hw : o = weird
 · exact .inr (.inr ⟨by rw [ho, hw], hw⟩)
 · rcases h b o ho with hp | rfl | rfl
   · exact .inl ⟨by rw [ho]; simpa using hw, ho, hp⟩
   · exact .inl ⟨by rw [ho]; simpa using hw, ho, .inr (.inr rfl)⟩
   · exact absurd rfl hw
theorem Rel.re {J : Nat → Prop} {w v : World} (h : Rel J w v) (τ : Nat → Question → Nat) : Rel J (w.re τ) v := ⟨h.size, h.low, h.blk⟩
theorem World.ext' {a b : World} (h1 : a.heap = b.heap) (h2 : a.tape = b.tape) (h3 : a.drawn = b.drawn) (h4 : a.os = b.os) (h5 : a.output = b.output) : a = b := by
 cases a; cases b; simp only at h1 h2 h3 h4 h5; subst h1 h2 h3 h4 h5; rfl
structure Good (S : Program) (fr : Frame) (l : List Frame) : Prop where
 rel : FrRel S (K0 S) fr fr
 mode : fr.mode = .run ∨ fr.mode = .returning
 cs : CsRel S (K0 S) l l
theorem ext_re {v v1 w2 : World} {τ : Nat → Question → Nat} {es es' : Array Event} (hB : After (fun b => v.heap[b]? = some weird) (v.re τ) v w2 v1 es es') (hos : v.os = v1.os) (hout : v.output = v1.output) : w2 = v1.re τ := by
 refine World.ext' ?_ hB.tapeP ?_ (hB.os.trans hos) (hB.out.trans hout)
 · apply Array.ext_getElem?
   intro b
   have hsz := hB.rel.size
   cases hb : v1.heap[b]? with
   | none =>
     have : v1.heap.size ≤ b := Array.getElem?_eq_none_iff.1 hb
     rw [show (v1.re τ).heap[b]? = none from hb]
     exact Array.getElem?_eq_none_iff.2 (by omega)
   | some o =>
     rw [show (v1.re τ).heap[b]? = some o from hb]
     rcases hB.rel.blk b o hb with ⟨_, h, _⟩ | ⟨hj, rfl, hx⟩ | ⟨hj, rfl⟩
     · exact h
     · have := hB.keep b hj
       rw [this] at hx
       have hv : (v.re τ).heap[b]? = some weird := hj
       rw [hv] at hx
       rcases hx with hx | ⟨c, t, hx⟩ <;> simp [husk, weird] at hx
     · rw [hB.keep b hj]; exact hj
 · have := hB.dr
   show w2.drawn = v1.drawn
   have e : (v.re τ).drawn = v.drawn := rfl
   omega
theorem local_step (T : Twins S S (K0 S)) {fr : Frame} {l : List Frame} {v : World} (hg : Good S fr l) (hsw : SW v) (hne : ¬ (fr.mode = .returning ∧ l = [])) :
   (∃ o v1 es1, stepG S true (gor fr (l ++ [noWay S])) v = .ended o v1 es1) ∨
   (∃ fr1 v1 es1 ch, stepG S true (gor fr (l ++ [noWay S])) v = .go (gor fr1 (l ++ [noWay S])) v1 es1 ∧ fr1.mode = .panicking ch ∧ fr1.defers = [] ∧ fr1.fn = fr.fn) ∨
   ∃ fr1 l1 v1 es1, stepG S true (gor fr (l ++ [noWay S])) v = .go (gor fr1 (l1 ++ [noWay S])) v1 es1 ∧ Good S fr1 l1 ∧ SW v1 ∧ v.drawn ≤ v1.drawn ∧ v1.tape = v.tape ∧
     ∀ τ, (∀ p q, v.drawn ≤ p → p < v1.drawn → τ p q = v.tape p q) → ∃ es', stepG S true (gor fr (l ++ [noWay S])) (v.re τ) = .go (gor fr1 (l1 ++ [noWay S])) (v1.re τ) es' := by
 have hm : (fr.mode = .run ∧ ¬ (fr.todo = [.code (K0 S).a] ∧ fr.todo = [.code (K0 S).b])) ∨ (fr.mode = .returning ∧ l ≠ []) := by
   rcases hg.mode with h | h
   · refine .inl ⟨h, fun hh => ?_⟩
     have ht := hg.rel.todo
     rw [hh.1] at ht
     cases ht with
     | cons a _ => cases a
     | code c =>
       obtain ⟨f, hf, _⟩ := hg.rel.known
       have hlt := (Array.getElem?_eq_some_iff.1 hf).1
       cases c with
       | hole h => rw [h] at hlt; exact Nat.lt_irrefl _ hlt
   · exact .inr ⟨h, fun hl => hne ⟨h, hl⟩⟩
 rcases step_follow (c0 := noWay S) (base := [noWay S]) T hsw hg.rel hg.cs hm with h | h | ⟨fr1, l1, fr1', l1', v1, es1, hs, hf, hmo, hc, hw, hd, ht, hall⟩
 · exact .inl h
 · exact .inr (.inl h)
 · obtain ⟨w1, es1', es2, hs', hA, _⟩ := hall _ v (Rel.self hsw) (fun _ _ _ => rfl)
   rw [hs] at hs'
   simp only [GStep.go.injEq, Goroutine.mk.injEq, and_true] at hs'
   obtain ⟨⟨rfl, hl⟩, rfl, rfl⟩ := hs'
   have hl' : l1 = l1' := List.append_cancel_right hl
   subst hl'
   refine .inr (.inr ⟨fr1, l1, v1, es1, hs, ⟨hf, hmo, hc⟩, hw, hd, ht, fun τ hτ => ?_⟩)
   obtain ⟨w2, es2', es3, hs2, hB, _⟩ := hall _ (v.re τ) ((Rel.self hsw).re τ) (fun j q hj => hτ _ q (Nat.le_add_right ..) hj)
   refine ⟨es2', ?_⟩
   have : w2 = v1.re τ := ext_re hB hA.os.symm hA.out.symm
   exact this ▸ hs2
def AtLeave (S : Program) (Post : Value → World → Prop) (fr : Frame) (v : World) : Prop := fr.mode = .returning ∧ ∃ r, fr.leaving S v (.returned r) ∧ Post r v
inductive Runs (S : Program) (Post : Value → World → Prop) : Frame → List Frame → World → Prop
 | done {fr : Frame} {v : World} : (∀ τ, AtLeave S Post fr (v.re τ)) → Runs S Post fr [] v
 | step {fr : Frame} {l : List Frame} {v : World} : ¬ (fr.mode = .returning ∧ l = []) →
     (∀ τ, ∃ fr1 l1 v1 es, stepG S true (gor fr (l ++ [noWay S])) (v.re τ) = .go (gor fr1 (l1 ++ [noWay S])) v1 es ∧ (fr1.mode = .run ∨ fr1.mode = .returning)) →
     (∀ τ fr1 l1 v1 es, stepG S true (gor fr (l ++ [noWay S])) (v.re τ) = .go (gor fr1 (l1 ++ [noWay S])) v1 es → Runs S Post fr1 l1 v1) → Runs S Post fr l v
theorem SW.re {v : World} (h : SW v) (τ : Nat → Question → Nat) : SW (v.re τ) := h
theorem Runs.re {Post : Value → World → Prop} {fr : Frame} {l : List Frame} {v : World} (h : Runs S Post fr l v) (σ : Nat → Question → Nat) : Runs S Post fr l (v.re σ) := by
 cases h with
 | done h => exact .done fun τ => h τ
 | step hne h h' => exact .step hne (fun τ => h τ) fun τ => h' τ
def Ends (S : Program) (Post : Value → World → Prop) (fr : Frame) (l : List Frame) (v : World) : Prop :=
 ∀ τ, ∃ fr' v', Steps S (lone fr (l ++ [noWay S]) (v.re τ)) (lone fr' [noWay S] v') ∧ AtLeave S Post fr' v'
theorem step_of_go {fr fr1 : Frame} {cs cs1 : List Frame} {v v1 : World} {es : Array Event} (h : stepG S true (gor fr cs) v = .go (gor fr1 cs1) v1 es) : step S (lone fr cs v) = .next (lone fr1 cs1 v1) :=
 step_lone_go (by rw [show ({ frame := fr, callers := cs, status := .running, dying := none } : Goroutine) = gor fr cs from rfl, h]; rfl)
theorem step_of_ended {fr : Frame} {cs : List Frame} {v v1 : World} {o : Outcome} {es : Array Event} (h : stepG S true (gor fr cs) v = .ended o v1 es) : step S (lone fr cs v) = .ended o v1 :=
 step_lone_ended (by rw [show ({ frame := fr, callers := cs, status := .running, dying := none } : Goroutine) = gor fr cs from rfl, h]; rfl)
theorem panic_never (hx : (noWay S).catches S = true) : ∀ (n : Nat) (fr : Frame) (l : List Frame) (v : World) (ch : List PanicEntry), fr.mode = .panicking ch → fr.defers = [] → (∃ f, S.funcs[fr.fn]? = some f) → CsRel S (K0 S) l l →
   ∀ fr' v', runN S n (lone fr (l ++ [noWay S]) v) = .next (lone fr' [noWay S] v') → fr'.mode ≠ .returning
 | 0, fr, l, v, ch, hm, hd, hf, hl, fr', v', hr => by
   simp only [runN, Stepped.next.injEq] at hr
   have : fr' = fr := by
     have := congrArg (fun m => m.gs[0]?) hr
     simp [lone] at this
     exact this.1.symm
   rw [this, hm]; simp
 | n + 1, fr, l, v, ch, hm, hd, hf, hl, fr', v', hr => by
   obtain ⟨f, hf⟩ := hf
   simp only [runN] at hr
   have hcat : fr.catches S = false := by simp [Frame.catches, hf]
   cases hl with
   | nil =>
     rw [show ([] : List Frame) ++ [noWay S] = [noWay S] from rfl, step_of_go (es := #[]) (by simp only [gor, stepG, hm, unwind, hd, hcat]; rfl)] at hr
     cases n with
     | zero =>
       simp only [runN, Stepped.next.injEq] at hr
       have := congrArg (fun m => m.gs[0]?) hr
       simp [lone] at this
     | succ n =>
       simp only [runN] at hr
       have hc' : ((noWay S).raise ch).catches S = true := hx
       have hm' : ((noWay S).raise ch).mode = .panicking ch := rfl
       have hd' : ((noWay S).raise ch).defers = [] := rfl
       rw [step_of_ended (es := #[]) (by simp only [gor, stepG, hm', unwind, hd', hc']; rfl)] at hr
       cases hr
   | @cons c _ l _ hc hcm hl =>
     rw [List.cons_append, step_of_go (es := #[]) (by simp only [gor, stepG, hm, unwind, hd, hcat]; rfl)] at hr
     obtain ⟨f', hf', _⟩ := hc.known
     have e : c.raise ch = { c with mode := .panicking ch } := by unfold Frame.raise; rw [hcm]
     exact panic_never hx n (c.raise ch) l v ch (by rw [e]) (by rw [e]; exact hc.plain.1) (by rw [e]; exact ⟨f', hf'⟩) hl fr' v' hr
theorem runN_lone_next {n : Nat} {fr fr1 : Frame} {cs cs1 : List Frame} {v v1 : World} (h : step S (lone fr cs v) = .next (lone fr1 cs1 v1)) {m : Machine} (hr : runN S (n + 1) (lone fr cs v) = .next m) : runN S n (lone fr1 cs1 v1) = .next m := by
 simpa only [runN, h] using hr
theorem lone_inj {fr fr' : Frame} {cs cs' : List Frame} {v v' : World} (h : lone fr cs v = lone fr' cs' v') : fr = fr' ∧ cs = cs' ∧ v = v' := by
 have h1 := congrArg (fun m => m.gs[0]?) h
 have h2 := congrArg (fun m => m.world) h
 simp [lone] at h1 h2
 exact ⟨h1.1, h1.2, h2⟩
theorem leave_never (hx : Extern.next "fmt's door to nowhere" = none) {fr fr' : Frame} {v v' : World} {n : Nat} (hg : Good S fr []) (hm : fr.mode = .returning) (hr : runN S n (lone fr [noWay S] v) = .next (lone fr' [noWay S] v')) : n = 0 := by
 cases n with
 | zero => rfl
 | succ n =>
   exfalso
   obtain ⟨f, hf, _⟩ := hg.rel.known
   obtain ⟨hd, hk, _⟩ := hg.rel.plain
   cases hres : (results f fr.tmps).runT S v #[] with
   | mk r es =>
   cases r with
   | halt x v1 =>
     have : ∃ o es', stepG S true (gor fr [noWay S]) v = .ended o v1 es' := by
       simp only [gor, stepG, hm, unwind, hd, hf, hres]
       cases x <;> exact ⟨_, _, rfl⟩
     obtain ⟨o, es', h⟩ := this
     simp only [runN, step_of_ended h] at hr
     cases hr
   | ok x v1 =>
     have : stepG S true (gor fr [noWay S]) v = .go (gor ((noWay S).finish x) []) v1 (seen S fr.fn es) := by
       simp only [gor, stepG, hm, unwind, hd, hf, hres, doReturn, hk, GStep.after]
       simp
     have hr := runN_lone_next (step_of_go this) hr
     cases n with
     | zero =>
       simp only [runN, Stepped.next.injEq] at hr
       have := (lone_inj hr).2.1
       cases this
     | succ n =>
       simp only [runN] at hr
       have : ∃ o es', stepG S true (gor ((noWay S).finish x) []) v1 = .ended o v1 es' := by
         unfold gor stepG
         simp only [noWay, Frame.finish, stepG.exec, hx, Option.elim]
         exact ⟨_, _, rfl⟩
       obtain ⟨o, es', h⟩ := this
       rw [step_of_ended h] at hr
       cases hr
theorem run_local (T : Twins S S (K0 S)) (hx : (noWay S).catches S = true) (hy : Extern.next "fmt's door to nowhere" = none) {ρ σ : Nat → Question → Nat} : ∀ (n : Nat) {fr : Frame} {l : List Frame} {v : World}, Good S fr l → SW v → (∀ p q, v.drawn ≤ p → ρ p q = σ p q) →
   ∀ {fr' : Frame} {v' : World}, runN S n (lone fr (l ++ [noWay S]) (v.re ρ)) = .next (lone fr' [noWay S] v') → fr'.mode = .returning → runN S n (lone fr (l ++ [noWay S]) (v.re σ)) = .next (lone fr' [noWay S] (v'.re σ)) ∧ Good S fr' [] ∧ SW v'
 | 0, fr, l, v, hg, hsw, hag, fr', v', hr, hm => by
   simp only [runN, Stepped.next.injEq] at hr ⊢
   obtain ⟨rfl, hl, rfl⟩ := lone_inj hr
   have : l = [] := by simpa using congrArg List.length hl
   subst this
   exact ⟨rfl, hg, hsw⟩
 | n + 1, fr, l, v, hg, hsw, hag, fr', v', hr, hm => by
   by_cases hne : fr.mode = .returning ∧ l = []
   · obtain ⟨h1, rfl⟩ := hne
     have := leave_never hy hg h1 hr
     omega
   rcases local_step T hg (hsw.re ρ) hne with ⟨o, v1, es1, hs⟩ | ⟨fr1, v1, es1, ch, hs, hpm, hd, hfn⟩ | ⟨fr1, l1, v1, es1, hs, hg1, hsw1, hd, ht, hloc⟩
   · simp only [runN, step_of_ended hs] at hr
     cases hr
   · obtain ⟨f, hf, _⟩ := hg.rel.known
     exact absurd hm (panic_never hx n fr1 l v1 ch hpm hd ⟨f, hfn ▸ hf⟩ hg.cs fr' v' (runN_lone_next (step_of_go hs) hr))
   · have hr' := runN_lone_next (step_of_go hs) hr
     obtain ⟨es', hs'⟩ := hloc σ (fun p q hp _ => (hag p q hp).symm)
     have e : v1 = v1.re ρ := by
       have : ρ = v1.tape := ht.symm
       rw [this]; rfl
     rw [e] at hr'
     have hd' : v.drawn ≤ v1.drawn := hd
     obtain ⟨h1, h2⟩ := run_local T hx hy n hg1 hsw1 (fun p q hp => hag p q (by omega)) hr' hm
     refine ⟨?_, h2⟩
     simp only [runN]
     rw [show step S (lone fr (l ++ [noWay S]) (v.re σ)) = _ from step_of_go hs']
     exact h1
theorem leaving_re {fr : Frame} {v : World} (hsw : SW v) {r : Value} (h : fr.leaving S v (.returned r)) (σ : Nat → Question → Nat) : fr.leaving S (v.re σ) (.returned r) := by
 obtain ⟨h1, h2, h3, f, hf, hr⟩ := h
 refine ⟨h1, h2, h3, f, hf, ?_⟩
 have hF : Fol S S (results f fr.tmps) := by
   unfold results
   refine Fol.bind (Fol.mapM _ (fun x => ?_) _) fun _ => Fol.pure _
   cases x with
   | tmp t => exact Fol.pure _
   | cell a t => exact Fol.bind (Fol.asAddr rfl _) fun _ => Fol.loadVar rfl _ _
 have hrT : (results f fr.tmps).runT S v #[] = (.ok r v, ((results f fr.tmps).runT S v #[]).2) := by
   have := Sem.runT_eq S (results f fr.tmps) v #[]
   exact Prod.ext ((congrArg Prod.fst this).trans hr) rfl
 obtain ⟨w1, es1, h1, hA⟩ := hF.go _ (v.re σ) v #[] #[] r v _ ((Rel.self hsw).re σ) hrT (fun j q hj => by omega)
 have : w1 = v.re σ := ext_re hA rfl rfl
 have h2 := Sem.runT_eq S (results f fr.tmps) (v.re σ) #[]
 have h3 := congrArg Prod.fst h2
 rw [h1, this] at h3
 exact h3.symm
theorem Ends.step (T : Twins S S (K0 S)) (hx : (noWay S).catches S = true) (hy : Extern.next "fmt's door to nowhere" = none) {Post : Value → World → Prop} (hPost : ∀ r v σ, Post r v → Post r (v.re σ)) {fr : Frame} {l : List Frame} {v : World} (hg : Good S fr l) (hsw : SW v) (hne : ¬ (fr.mode = .returning ∧ l = []))
   (h : Ends S Post fr l v) (τ : Nat → Question → Nat) : ∃ fr1 l1 v1 es1, stepG S true (gor fr (l ++ [noWay S])) (v.re τ) = .go (gor fr1 (l1 ++ [noWay S])) v1 es1 ∧ Good S fr1 l1 ∧ SW v1 ∧ v.drawn ≤ v1.drawn ∧ v1.tape = τ ∧ Ends S Post fr1 l1 v1 ∧
     ∀ σ, (∀ p q, v.drawn ≤ p → p < v1.drawn → σ p q = τ p q) → ∃ es', stepG S true (gor fr (l ++ [noWay S])) (v.re σ) = .go (gor fr1 (l1 ++ [noWay S])) (v1.re σ) es' := by
 have pos : ∀ {σ : Nat → Question → Nat} {fr' v'} {n : Nat}, runN S n (lone fr (l ++ [noWay S]) (v.re σ)) = .next (lone fr' [noWay S] v') → fr'.mode = .returning → ∃ k, n = k + 1 := by
   intro σ fr' v' n hr hm
   cases n with
   | succ k => exact ⟨k, rfl⟩
   | zero =>
     simp only [runN, Stepped.next.injEq] at hr
     obtain ⟨rfl, hl, _⟩ := lone_inj hr
     refine absurd ⟨hm, ?_⟩ hne
     have := congrArg List.length hl
     simpa using this
 rcases local_step T hg (hsw.re τ) hne with ⟨o, v1, es1, hs⟩ | ⟨fr1, v1, es1, ch, hs, hm, hd, hfn⟩ | ⟨fr1, l1, v1, es1, hs, hg1, hsw1, hd, ht, hloc⟩
 · obtain ⟨fr', v', ⟨n, hr⟩, hl⟩ := h τ
   obtain ⟨k, rfl⟩ := pos hr hl.1
   simp only [runN, step_of_ended hs] at hr
   cases hr
 · obtain ⟨fr', v', ⟨n, hr⟩, hl⟩ := h τ
   obtain ⟨k, rfl⟩ := pos hr hl.1
   have hr' := runN_lone_next (step_of_go hs) hr
   obtain ⟨f, hf, _⟩ := hg.rel.known
   exact absurd hl.1 (panic_never hx k fr1 l v1 ch hm hd ⟨f, hfn ▸ hf⟩ hg.cs fr' v' hr')
 · refine ⟨fr1, l1, v1, es1, hs, hg1, hsw1, hd, ht, fun σ => ?_, fun σ hσ => hloc σ hσ⟩
   let ρ : Nat → Question → Nat := fun p q => if p < v1.drawn then τ p q else σ p q
   obtain ⟨es', hs'⟩ := hloc ρ (fun p q _ hp => by show (if p < v1.drawn then τ p q else σ p q) = _; rw [if_pos hp]; rfl)
   obtain ⟨fr', v', ⟨n, hr⟩, hl⟩ := h ρ
   obtain ⟨k, rfl⟩ := pos hr hl.1
   have hr' := runN_lone_next (step_of_go hs') hr
   obtain ⟨h1, h2, h3⟩ := run_local (σ := σ) T hx hy k hg1 hsw1 (fun p q hp => by show (if p < v1.drawn then τ p q else σ p q) = _; rw [if_neg (by omega)]) hr' hl.1
   obtain ⟨hm, r, hr1, hr2⟩ := hl
   exact ⟨fr', v'.re σ, ⟨k, h1⟩, hm, r, leaving_re h3 hr1 σ, hPost r v' σ hr2⟩
structure St (S : Program) (Post : Value → World → Prop) where
 fr : Frame
 l : List Frame
 v : World
 good : Good S fr l
 sw : SW v
 ends : Ends S Post fr l v
 bad : ¬ Runs S Post fr l v
theorem St.ne (hy : Extern.next "fmt's door to nowhere" = none) {Post : Value → World → Prop} (x : St S Post) : ¬ (x.fr.mode = .returning ∧ x.l = []) := by
 intro ⟨hm, hl⟩
 apply x.bad
 have hE := x.ends
 have hg := x.good
 rw [hl] at hE hg ⊢
 refine .done fun τ => ?_
 obtain ⟨fr', v', ⟨n, hr⟩, hlv⟩ := hE τ
 obtain rfl := leave_never hy hg hm hr
 simp only [runN, Stepped.next.injEq] at hr
 obtain ⟨h1, _, h2⟩ := lone_inj hr
 rw [h1, h2]; exact hlv
theorem St.next (T : Twins S S (K0 S)) (hx : (noWay S).catches S = true) (hy : Extern.next "fmt's door to nowhere" = none) {Post : Value → World → Prop} (hPost : ∀ r v σ, Post r v → Post r (v.re σ)) (x : St S Post) :
   ∃ y : St S Post, x.v.drawn ≤ y.v.drawn ∧ (∀ p q, p < x.v.drawn → y.v.tape p q = x.v.tape p q) ∧
     ∀ σ, (∀ p q, x.v.drawn ≤ p → p < y.v.drawn → σ p q = y.v.tape p q) → ∃ es', stepG S true (gor x.fr (x.l ++ [noWay S])) (x.v.re σ) = .go (gor y.fr (y.l ++ [noWay S])) (y.v.re σ) es' := by
 have hne := x.ne hy
 have : ∃ τ fr1 l1 v1 es1, stepG S true (gor x.fr (x.l ++ [noWay S])) (x.v.re τ) = .go (gor fr1 (l1 ++ [noWay S])) v1 es1 ∧ ¬ Runs S Post fr1 l1 v1 := by
   refine Classical.byContradiction fun hno => x.bad (.step hne (fun τ => ?_) fun τ fr1 l1 v1 es hs => Classical.byContradiction fun hb => hno ⟨τ, fr1, l1, v1, es, hs, hb⟩)
   obtain ⟨fr1, l1, v1, es1, hs, hg1, _⟩ := Ends.step T hx hy hPost x.good x.sw hne x.ends τ
   exact ⟨fr1, l1, v1, es1, hs, hg1.mode⟩
 obtain ⟨τ, fr1, l1, v1, es1, hs, hbad⟩ := this
 obtain ⟨fr2, l2, v2, es2, hs2, hg2, hsw2, hd2, ht2, hE2, hloc⟩ := Ends.step T hx hy hPost x.good x.sw hne x.ends τ
 rw [hs2] at hs
 simp only [gor, GStep.go.injEq, Goroutine.mk.injEq, and_true] at hs
 obtain ⟨⟨rfl, hl⟩, rfl, _⟩ := hs
 have hl' : l2 = l1 := List.append_cancel_right hl
 subst hl'
 refine ⟨⟨fr2, l2, v2.re (fun p q => if p < x.v.drawn then x.v.tape p q else τ p q), hg2, hsw2, ?_, fun h => hbad ?_⟩, hd2, fun p q hp => ?_, fun σ hσ => ?_⟩
 · intro σ; exact hE2 σ
 · have := h.re v2.tape; exact this
 · show (if p < x.v.drawn then x.v.tape p q else τ p q) = _
   rw [if_pos hp]
 · refine hloc σ fun p q h1 h2 => ?_
   rw [hσ p q h1 h2]
   show (if p < x.v.drawn then x.v.tape p q else τ p q) = _
   rw [if_neg (by omega)]
theorem runs_of_ends (T : Twins S S (K0 S)) (hx : (noWay S).catches S = true) (hy : Extern.next "fmt's door to nowhere" = none) {Post : Value → World → Prop} (hPost : ∀ r v σ, Post r v → Post r (v.re σ)) {fr : Frame} {l : List Frame} {v : World} (hg : Good S fr l) (hsw : SW v)
   (h : Ends S Post fr l v) : Runs S Post fr l v := by
 refine Classical.byContradiction fun hbad => ?_
 let nx : St S Post → St S Post := fun x => Classical.choose (St.next T hx hy hPost x)
 have nxs := fun x => Classical.choose_spec (St.next T hx hy hPost x)
 let X : Nat → St S Post := fun n => Nat.rec ⟨fr, l, v, hg, hsw, h, hbad⟩ (fun _ x => nx x) n
 have hd : ∀ n, (X n).v.drawn ≤ (X (n + 1)).v.drawn := fun n => (nxs (X n)).1
 have hmono : ∀ n k, (X n).v.drawn ≤ (X (n + k)).v.drawn := by
   intro n k
   induction k with
   | zero => exact Nat.le_refl _
   | succ k ih => exact Nat.le_trans ih (hd (n + k))
 have hsame : ∀ n k p q, p < (X n).v.drawn → (X (n + k)).v.tape p q = (X n).v.tape p q := by
   intro n k p q hp
   induction k with
   | zero => rfl
   | succ k ih => rw [← ih]; exact (nxs (X (n + k))).2.1 p q (Nat.lt_of_lt_of_le hp (hmono n k))
 have hany : ∀ n m p q, p < (X n).v.drawn → p < (X m).v.drawn → (X n).v.tape p q = (X m).v.tape p q := by
   intro n m p q hn hm
   rcases Nat.le_total n m with hle | hle
   · obtain ⟨k, rfl⟩ := Nat.exists_eq_add_of_le hle
     exact (hsame n k p q hn).symm
   · obtain ⟨k, rfl⟩ := Nat.exists_eq_add_of_le hle
     exact hsame m k p q hm
 classical
 let σ : Nat → Question → Nat := fun p q => if hp : ∃ n, p < (X n).v.drawn then (X (Classical.choose hp)).v.tape p q else 0
 have hσ : ∀ n p q, p < (X n).v.drawn → σ p q = (X n).v.tape p q := by
   intro n p q hp
   have hex : ∃ n, p < (X n).v.drawn := ⟨n, hp⟩
   show (if hp : ∃ n, p < (X n).v.drawn then (X (Classical.choose hp)).v.tape p q else 0) = _
   rw [dif_pos hex]
   exact hany _ n p q (Classical.choose_spec hex) hp
 have hstep : ∀ n, step S (lone (X n).fr ((X n).l ++ [noWay S]) ((X n).v.re σ)) = .next (lone (X (n + 1)).fr ((X (n + 1)).l ++ [noWay S]) ((X (n + 1)).v.re σ)) := by
   intro n
   obtain ⟨es', hs⟩ := (nxs (X n)).2.2 σ (fun p q _ h2 => hσ (n + 1) p q h2)
   exact step_of_go hs
 have hrun : ∀ k n, runN S k (lone (X n).fr ((X n).l ++ [noWay S]) ((X n).v.re σ)) = .next (lone (X (n + k)).fr ((X (n + k)).l ++ [noWay S]) ((X (n + k)).v.re σ)) := by
   intro k
   induction k with
   | zero => intro n; rfl
   | succ k ih =>
     intro n
     simp only [runN, hstep n]
     rw [ih (n + 1)]
     rw [show n + 1 + k = n + (k + 1) by omega]
 obtain ⟨fr', v', ⟨k, hr⟩, hl⟩ := h σ
 have h0 := hrun k 0
 rw [show runN S k (lone (X 0).fr ((X 0).l ++ [noWay S]) ((X 0).v.re σ)) = _ from hr] at h0
 simp only [Stepped.next.injEq] at h0
 obtain ⟨e1, e2, e3⟩ := lone_inj h0
 have e2' : (X (0 + k)).l = [] := by simpa using (congrArg List.length e2).symm
 have hm : (X (0 + k)).fr.mode = .returning := e1 ▸ hl.1
 exact (X (0 + k)).ne hy ⟨hm, e2'⟩
end
end Go.Proofs.Ytcoppnbjpncdcaa.Sim
end
section
namespace Go.Proofs.Ytcoppnbjpncdcaa.Sim
open Go Go.Conc Go.ConcM
open Go.ConcN (sumTo upd sumTo_upd upd_ne upd_same)
def Shun (J : Nat → Prop) (l : Loc) : Prop := ∃ a : Addr, l = .cell a ∧ J a.block
theorem evL_of_ok {J : Nat → Prop} {N : Nat} {e : Event} (h : EvOk J N e) : EvL (Shun J) N e := by
 rcases h with ⟨a, wr, rfl, h1, h2⟩ | ⟨r, rfl, h⟩ | rfl
 · exact evL_cell a wr (fun ⟨b, hb, hj⟩ => by simp only [Loc.cell.injEq] at hb; exact h1 (hb ▸ hj)) h2
 · refine ⟨fun x hx hs => ?_, by simp, by simp, h⟩
   simp only [MemAct.ofEvent, MemAct.touch?, Option.some.injEq] at hx
   subst hx
   obtain ⟨b, hb, _⟩ := hs
   cases hb
 · exact ⟨fun x hx => by simp [MemAct.ofEvent, MemAct.touch?] at hx, by simp, by simp, trivial⟩
section
variable {P : Program} {Sh : Loc → Prop}
theorem runN_of_runNT {n : Nat} : ∀ {m m' : Machine} {t t' : Trace}, runNT P n m t = (.next m', t') → runN P n m = .next m' := by
 induction n with
 | zero => intro m m' t t' h; simp only [runNT, Prod.mk.injEq, Stepped.next.injEq] at h; simp only [runN, h.1]
 | succ n ih =>
   intro m m' t t' h
   simp only [runNT] at h
   simp only [runN, step]
   cases hs : stepT P m with
   | mk s ops =>
     rw [hs] at h
     cases s with
     | next m1 => exact ih h
     | ended o w => simp at h
theorem one_beside {Q : Goroutine → World → Prop} : ∀ (M : Nat) (gs : Array Goroutine) (a : Goroutine) (w : World) (sl : Option (Nat × Nat)) (t : Trace) (q : Nat → Nat), sumTo gs.size q ≤ M → gs[0]? = some a → a.status = .running → Leavers P t gs q → Past Sh w.heap.size t →
   (∀ d, ∃ a' w' es, stepG P true a (w.at d) = .go a' w' es ∧ (∀ e ∈ es, EvL Sh w'.heap.size e) ∧ w.heap.size ≤ w'.heap.size ∧ Q a' w') →
   ∃ (N : Nat) (gs' : Array Goroutine) (a' : Goroutine) (w' : World) (sl' : Option (Nat × Nat)) (t' : Trace) (q' : Nat → Nat),
     runNT P N (crowd gs w sl) t = (.next (crowd gs' w' sl'), t') ∧ gs'[0]? = some a' ∧ Q a' w' ∧ Leavers P t' gs' q' ∧ Past Sh w'.heap.size t' := by
 intro M
 induction M using Nat.strongRecOn with
 | ind M ih =>
 intro gs a w sl t q hM h0 hrun hL hP hstep
 have haw : ∀ g ∈ gs, awake g := by
   intro g hg
   obtain ⟨i, hi, rfl⟩ := Array.mem_iff_getElem.1 hg
   rcases Nat.eq_zero_or_pos i with rfl | hpos
   · have : gs[0] = a := by simpa [Array.getElem?_eq_getElem hi] using h0
     rw [this]; exact awake_of (.inl hrun)
   · exact awake_of ((hL.old i _ hpos (Array.getElem?_eq_getElem hi)).status.elim .inl fun x => .inr (.inr x))
 obtain ⟨i, g, d, sl', hi, hg, hst⟩ := crowd_pick (P := P) (w := w) (sl := sl) haw ⟨0, a, h0, hrun⟩
 rcases Nat.eq_zero_or_pos i with rfl | hpos
 ·
   obtain rfl : g = a := by rw [h0] at hi; exact (Option.some.inj hi).symm
   obtain ⟨a', w', es, hgo, hes, hsz, hQ⟩ := hstep d
   have hrunT := runT_crowd_go (P := P) (sl := sl') (i := 0) hi (show stepG P (0 == 0) g (w.at d) = _ from hgo)
   have hlt : 0 < gs.size := (Array.getElem?_eq_some_iff.1 h0).1
   refine ⟨1, (gs.map (woken P g a' w')).setIfInBounds 0 a', a', w', sl', t ++ MemOp.ofEvents 0 g.frame.fn g.frame.place es, q, by simp only [runNT, hst, hrunT], by simp [hlt], hQ,
     ⟨fun j x hj hx => ?_, fun j hj => ?_⟩, (hP.mono hsz).own hes⟩
   · have hne : 0 ≠ j := by omega
     rw [Array.getElem?_setIfInBounds_ne hne, Array.getElem?_map] at hx
     obtain ⟨y, hy, rfl⟩ := Option.map_eq_some_iff.1 hx
     have hq := hL.old j y hj hy
     rw [woken_quitsD hq, Deaf_other t (by omega) _ (fun op hop => by obtain ⟨e, _, rfl⟩ := Go.Conc.mem_ofEvents hop; rfl)]
     exact hq
   · rw [Deaf_other t (g' := 0) (by simp at hj; omega) _ (fun op hop => by obtain ⟨e, _, rfl⟩ := Go.Conc.mem_ofEvents hop; rfl)]
     exact hL.above j (by simpa using hj)
 ·
   have hq := hL.old i g hpos hi
   have hi0 : (i == 0) = false := by simp; omega
   have hlt : i < gs.size := (Array.getElem?_eq_some_iff.1 hi).1
   cases hqi : q i with
   | zero => rw [hqi] at hq; rw [hq.1] at hg; cases hg
   | succ k =>
     rw [hqi] at hq
     rcases hq with ⟨hf, _⟩ | ⟨_, g', es, hm, hstp, hq'⟩
     · rw [hf] at hg; cases hg
     have hrunT := runT_crowd_go (P := P) (sl := sl') (i := i) hi (by rw [hi0]; exact hstp (w.at d))
     have hsz : ((gs.map (woken P g g' (w.at d))).setIfInBounds i g').size = gs.size := by simp
     have hsum : sumTo gs.size (upd q i k) + (k + 1) = sumTo gs.size q + k := by
       have := sumTo_upd q k id hlt
       simpa [hqi] using this
     obtain ⟨N, gs', a'', w'', sl'', t', q', hr, h0', hS, hL', hP'⟩ := ih (sumTo gs.size (upd q i k)) (by omega) ((gs.map (woken P g g' (w.at d))).setIfInBounds i g') a (w.at d) sl' (t ++ MemOp.ofEvents i g.frame.fn g.frame.place es) (upd q i k) (by rw [hsz]; exact Nat.le_refl _)
       (by
         have hne : i ≠ 0 := by omega
         rw [Array.getElem?_setIfInBounds_ne hne, Array.getElem?_map, h0]
         simp [woken_run hrun]) hrun
       ⟨fun j x hj hx => by
         by_cases hji : i = j
         · subst hji
           rw [Array.getElem?_setIfInBounds_self_of_lt (by simpa using hlt)] at hx
           obtain rfl := Option.some.inj hx
           rw [upd_same, Deaf_own]
           exact hq'
         · rw [Array.getElem?_setIfInBounds_ne hji, Array.getElem?_map] at hx
           obtain ⟨y, hy, rfl⟩ := Option.map_eq_some_iff.1 hx
           have hqj := hL.old j y hj hy
           rw [woken_quitsD hqj, upd_ne q k (Ne.symm hji), Deaf_other t hji _ (fun op hop => by obtain ⟨e, _, rfl⟩ := Go.Conc.mem_ofEvents hop; rfl)]
           exact hqj, fun j hj => by
         rw [Deaf_other t (g' := i) (by simp at hj; omega) _ (fun op hop => by obtain ⟨e, _, rfl⟩ := Go.Conc.mem_ofEvents hop; rfl)]
         exact hL.above j (by simpa using hj)⟩
       (hP.mute (by omega) hm) (fun d' => hstep d')
     exact ⟨N + 1, gs', a'', w'', sl'', t', q', by simp only [runNT, hst, hrunT]; exact hr, h0', hS, hL', hP'⟩
end
def Next (S : Program) (x y : Frame × List Frame × World) : Prop :=
 ¬ (x.1.mode = .returning ∧ x.2.1 = []) ∧ ∃ τ es, stepG S true (gor x.1 (x.2.1 ++ [noWay S])) (x.2.2.re τ) = .go (gor y.1 (y.2.1 ++ [noWay S])) y.2.2 es
inductive Path (S : Program) : Frame × List Frame × World → Frame × List Frame × World → Prop
 | one {x y} : Next S x y → Path S x y
 | cons {x y z} : Next S x y → Path S y z → Path S x z
structure Kept (J₀ : Nat → Prop) (w₀ : World) (J : Nat → Prop) (w : World) : Prop where
 sub : ∀ b, J₀ b → J b
 new : ∀ b, J b → J₀ b ∨ w₀.heap.size ≤ b
 keep : ∀ b : Nat, J₀ b → w.heap[b]? = w₀.heap[b]?
 os : OsLater w₀.os w.os
 out : w.output = w₀.output
 size : w₀.heap.size ≤ w.heap.size
theorem Kept.refl (J : Nat → Prop) (w : World) : Kept J w J w := ⟨fun _ h => h, fun _ h => .inl h, fun _ _ => rfl, .refl _, rfl, Nat.le_refl _⟩
theorem Kept.trans {J₀ J₁ J₂ : Nat → Prop} {w₀ w₁ w₂ : World} (h : Kept J₀ w₀ J₁ w₁) (k : Kept J₁ w₁ J₂ w₂) : Kept J₀ w₀ J₂ w₂ :=
 ⟨fun b hb => k.sub b (h.sub b hb), fun b hb => (k.new b hb).elim (h.new b) fun x => .inr (Nat.le_trans h.size x), fun b hb => (k.keep b (h.sub b hb)).trans (h.keep b hb), h.os.trans k.os, k.out.trans h.out, Nat.le_trans h.size k.size⟩
theorem Kept.after {J : Nat → Prop} {w v w' v' : World} {es es' : Array Event} (h : After J w v w' v' es es') : Kept J w J w' :=
 ⟨fun _ h => h, fun _ h => .inl h, h.keep, h.os ▸ .refl _, h.out, h.size⟩
def Alt (P : Program) (fr' : Frame) (l' : List Frame) (ga : Goroutine) : Prop := ga = gor fr' l' ∨ (fr'.mode = .returning ∧ ga.status = .running ∧ ∀ w, stepG P true ga w = stepG P true (gor fr' l') w)
theorem Alt.step {P : Program} {fr' : Frame} {l' : List Frame} {ga : Goroutine} (h : Alt P fr' l' ga) (w : World) : stepG P true ga w = stepG P true (gor fr' l') w := by
 rcases h with rfl | ⟨_, _, h⟩
 · rfl
 · exact h w
theorem Alt.run {P : Program} {fr' : Frame} {l' : List Frame} {ga : Goroutine} (h : Alt P fr' l' ga) : ga.status = .running := by
 rcases h with rfl | ⟨_, h, _⟩
 · rfl
 · exact h
def HoleOk (P S : Program) (K : Hole) (Post : Value → World → Prop) : Prop :=
 ∀ (J : Nat → Prop) (w v : World) (fr fr' : Frame) (l l' : List Frame) (gs : Array Goroutine) (sl : Option (Nat × Nat)) (t : Trace) (q : Nat → Nat),
   FrRel S K fr fr' → fr.mode = .run → fr.todo = [.code K.a] → fr'.todo = [.code K.b] → fr.fn = K.fn → CsRel S K l l' → SW v → Rel J w v → gs[0]? = some (gor fr' l') → Leavers P t gs q → Past (Shun J) w.heap.size t → Runs S Post fr l v →
   ∃ (N : Nat) (gs₁ : Array Goroutine) (fr₁ fr₁' : Frame) (ga : Goroutine) (w₁ v₁ : World) (sl₁ : Option (Nat × Nat)) (t₁ : Trace) (q₁ : Nat → Nat) (J₁ : Nat → Prop),
     runNT P N (crowd gs w sl) t = (.next (crowd gs₁ w₁ sl₁), t₁) ∧ Alt P fr₁' l' ga ∧ gs₁[0]? = some ga ∧ Leavers P t₁ gs₁ q₁ ∧ Past (Shun J₁) w₁.heap.size t₁ ∧
     Path S (fr, l, v) (fr₁, l, v₁) ∧ FrRel S K fr₁ fr₁' ∧ (fr₁.mode = .run ∨ fr₁.mode = .returning) ∧ SW v₁ ∧ Rel J₁ w₁ v₁ ∧ Kept J w J₁ w₁
def PostP (J₀ : Nat → Prop) (w₀ : World) (Post : Value → World → Prop) (r : Value) (w' : World) : Prop := ∃ J v', Rel J w' v' ∧ Post r v' ∧ Kept J₀ w₀ J w'
def EndsWell (P : Program) (Post : Value → World → Prop) (m : Machine) (t : Trace) : Prop :=
 ∃ N last o w' t', runNT P (N + 1) m t = (.ended o w', t') ∧ runN P N m = .next last ∧ step P last = .ended o w' ∧ Conc.Good P Post last o w' t'
theorem EndsWell.of_run {P : Program} {Post : Value → World → Prop} {m m' : Machine} {t t' : Trace} {N : Nat} (h : runNT P N m t = (.next m', t')) (k : EndsWell P Post m' t') : EndsWell P Post m t := by
 obtain ⟨M, last, o, w', t'', h1, h2, h3, h4⟩ := k
 refine ⟨N + M, last, o, w', t'', ?_, ?_, h3, h4⟩
 · rw [Nat.add_assoc, runNT_add, h]; exact h1
 · rw [runN_add, runN_of_runNT h]; exact h2
def Main (P S : Program) (K : Hole) (Post : Value → World → Prop) (x : Frame × List Frame × World) : Prop :=
 ∀ (J₀ J : Nat → Prop) (w₀ w : World) (fr' : Frame) (l' : List Frame) (ga : Goroutine) (gs : Array Goroutine) (sl : Option (Nat × Nat)) (t : Trace) (q : Nat → Nat),
   FrRel S K x.1 fr' → (x.1.mode = .run ∨ x.1.mode = .returning) → CsRel S K x.2.1 l' → SW x.2.2 → Rel J w x.2.2 → Kept J₀ w₀ J w → Alt P fr' l' ga → gs[0]? = some ga → Leavers P t gs q → Past (Shun J) w.heap.size t →
   EndsWell P (PostP J₀ w₀ Post) (crowd gs w sl) t
section
variable {P S : Program} {K : Hole}
theorem Rel.reS {J : Nat → Prop} {w v : World} (h : Rel J w v) (τ : Nat → Question → Nat) : Rel J w (v.re τ) := ⟨h.size, h.low, h.blk⟩
theorem Rel.at {J : Nat → Prop} {w v : World} (h : Rel J w v) (d : Nat) : Rel J (w.at d) v := ⟨h.size, h.low, h.blk⟩
theorem After.same {J : Nat → Prop} {w v w' : World} {es es' : Array Event} (h : After J w v w' v es es') (hr : Rel J w v) : w' = w := by
 refine World.ext' ?_ h.tapeP ?_ h.os h.out
 · apply Array.ext_getElem?
   intro b
   have h1 := h.rel.size
   have h2 := hr.size
   cases hb : v.heap[b]? with
   | none =>
     have : v.heap.size ≤ b := Array.getElem?_eq_none_iff.1 hb
     rw [Array.getElem?_eq_none_iff.2 (show w'.heap.size ≤ b by omega), Array.getElem?_eq_none_iff.2 (show w.heap.size ≤ b by omega)]
   | some o =>
     by_cases hj : J b
     · exact h.keep b hj
     · rcases h.rel.blk b o hb with ⟨_, e1, _⟩ | ⟨x, _⟩ | ⟨x, _⟩
       · rcases hr.blk b o hb with ⟨_, e2, _⟩ | ⟨x, _⟩ | ⟨x, _⟩
         · rw [e1, e2]
         · exact absurd x hj
         · exact absurd x hj
       · exact absurd x hj
       · exact absurd x hj
 · have := h.dr
   omega
theorem main_done (T : Twins P S K) (hin : ∀ (f : FuncId) (g : Func), S.funcs[f]? = some g → g.body.isSome = true → P.inits.idxOf? f = none) {Post : Value → World → Prop} {fr : Frame} {v : World} (h : ∀ τ, AtLeave S Post fr (v.re τ)) : Main P S K Post (fr, [], v) := by
 intro J₀ J w₀ w fr' l' ga gs sl t q hf hm hl hsw hr hk hga h0 hL hP
 cases hl with
 | nil =>
 obtain ⟨hmr, r, ⟨_, hd, hkd, f, hfn, hres⟩, hpost⟩ := h v.tape
 obtain ⟨h1, h2, h3, ⟨h4a, h4b, h4c⟩, ⟨h5a, h5b, h5c⟩, h6, h7⟩ := hf
 obtain ⟨f2, hf2, hb2, _⟩ := h6
 have e : f2 = f := Option.some.inj (hf2.symm.trans hfn)
 subst e
 have hP' : ∃ g' : Func, P.funcs[fr.fn]? = some g' ∧ g'.results = f2.results := by
   rcases T.like fr.fn f2 hfn with rfl | ⟨g', b, b', e1, e2, e3, e4, e5, e6⟩
   · cases hb2
   · exact ⟨g', e1, e3⟩
 obtain ⟨g', hg', hres'⟩ := hP'
 have hF : Fol P S (results f2 fr.tmps) := by
   unfold results
   refine Fol.bind (Fol.mapM _ (fun x => ?_) _) fun _ => Fol.pure _
   cases x with
   | tmp t => exact Fol.pure _
   | cell a t => exact Fol.bind (Fol.asAddr T.tab _) fun _ => Fol.loadVar T.tab _ _
 have hrT : (results f2 fr.tmps).runT S v #[] = (.ok r v, ((results f2 fr.tmps).runT S v #[]).2) := by
   have := Sem.runT_eq S (results f2 fr.tmps) v #[]
   exact Prod.ext ((congrArg Prod.fst this).trans hres) rfl
 have hlt : 0 < gs.size := (Array.getElem?_eq_some_iff.1 h0).1
 have hend := beside_ends (P := P) (Shun := Shun J) (B := w.heap.size) (D := fun _ _ es => ∀ e ∈ es, EvL (Shun J) w.heap.size e) (Post := PostP J₀ w₀ Post) (fun _ _ _ h => h) (sl := sl) (n := 0) h0 hL hP
   (by
     intro w₁ hw₁
     obtain ⟨d, rfl⟩ := hw₁
     obtain ⟨w1, es1, r1, A1⟩ := hF.go J (w.at d) v #[] #[] r v _ (hr.at d) hrT (fun j q hj => by omega)
     have hsame : w1 = w.at d := A1.same (hr.at d)
     subst hsame
     refine ⟨hga.run, r, seen P fr.fn es1, ?_, fun e he => ?_, J, v, hr.at d, ?_, hk.trans ⟨fun _ h => h, fun _ h => .inl h, fun _ _ => rfl, .refl _, rfl, Nat.le_refl _⟩⟩
     · have hmr' : fr'.mode = .returning := h3.trans hmr
       rw [hga.step]
       simp only [gor, stepG, hmr', unwind, h5a, h1, hg', h2]
       have : results g' fr.tmps = results f2 fr.tmps := by unfold results; rw [hres']
       rw [this, r1]
       simp only [doReturn, h5b, GStep.after, h1, hin _ _ hfn hb2]
       simp
     · obtain ⟨new, hn, hok⟩ := A1.evs
       have := seen_sub _ _ _ e he
       rw [hn] at this
       simp only [Array.empty_append] at this
       exact evL_of_ok (hok e this)
     · exact hpost)
 exact hend
theorem CodeRel.fn {f : FuncId} {x y : Code} (h : CodeRel S K f x y) : f = K.fn := by
 induction h with
 | hole h => exact h
 | seq _ _ ih => exact ih
theorem TodoRel.hole_fn {f : FuncId} {l l' : List Item} (h : TodoRel S K f l l') {x y : Code} (h1 : l = [.code x]) (h2 : l' = [.code y]) (hne : x ≠ y) : f = K.fn := by
 cases h with
 | nil => cases h1
 | cons _ _ =>
   simp only [List.cons.injEq] at h1 h2
   have := h1.1.symm.trans h2.1
   simp only [Item.code.injEq] at this
   exact absurd this hne
 | code c => exact c.fn
theorem main_step {Post : Value → World → Prop} (T : Twins P S K) (hab : K.a ≠ K.b) (hole : HoleOk P S K Post) {fr : Frame} {l : List Frame} {v : World} (hR : Runs S Post fr l v) (hne : ¬ (fr.mode = .returning ∧ l = []))
   (hgo : ∀ τ, ∃ fr1 l1 v1 es, stepG S true (gor fr (l ++ [noWay S])) (v.re τ) = .go (gor fr1 (l1 ++ [noWay S])) v1 es ∧ (fr1.mode = .run ∨ fr1.mode = .returning))
   (ih : ∀ y, Path S (fr, l, v) y → Main P S K Post y) : Main P S K Post (fr, l, v) := by
 intro J₀ J w₀ w fr' l' ga gs sl t q hf hm hl hsw hr hk hga h0 hL hP
 by_cases hh : fr.mode = .run ∧ fr.todo = [.code K.a] ∧ fr'.todo = [.code K.b]
 · by_cases hfn : fr.fn = K.fn
   · obtain rfl : ga = gor fr' l' := hga.resolve_right fun x => by
       have := hf.mode.trans hh.1
       rw [x.1] at this
       cases this
     obtain ⟨N, gs₁, fr₁, fr₁', ga₁, w₁, v₁, sl₁, t₁, q₁, J₁, hrun, hga₁, h0₁, hL₁, hP₁, hpath, hf₁, hm₁, hsw₁, hr₁, hk₁⟩ := hole J w v fr fr' l l' gs sl t q hf hh.1 hh.2.1 hh.2.2 hfn hl hsw hr h0 hL hP hR
     exact .of_run hrun (ih _ hpath J₀ J₁ w₀ w₁ fr₁' l' ga₁ gs₁ sl₁ t₁ q₁ hf₁ hm₁ hl hsw₁ hr₁ (hk.trans hk₁) hga₁ h0₁ hL₁ hP₁)
   · refine absurd ?_ hfn
     have htd := hf.todo
     rw [show (fr, l, v).1.todo = [.code K.a] from hh.2.1, hh.2.2] at htd
     exact htd.hole_fn rfl rfl hab
 · have hm' : (fr.mode = .run ∧ ¬ (fr.todo = [.code K.a] ∧ fr'.todo = [.code K.b])) ∨ (fr.mode = .returning ∧ l ≠ []) := by
     rcases hm with hm | hm
     · exact .inl ⟨hm, fun x => hh ⟨hm, x⟩⟩
     · exact .inr ⟨hm, fun x => hne ⟨hm, x⟩⟩
   have one : ∀ d, ∃ a' w' es, stepG P true ga (w.at d) = .go a' w' es ∧ (∀ e ∈ es, EvL (Shun J) w'.heap.size e) ∧ w.heap.size ≤ w'.heap.size ∧
       (∃ fr1 l1 fr1' l1' v1, a' = gor fr1' l1' ∧ Path S (fr, l, v) (fr1, l1, v1) ∧ FrRel S K fr1 fr1' ∧ (fr1.mode = .run ∨ fr1.mode = .returning) ∧ CsRel S K l1 l1' ∧ SW v1 ∧ Rel J w' v1 ∧ Kept J w J w') := by
     intro d
     let τ : Nat → Question → Nat := fun p q => w.tape (d + (p - v.drawn)) q
     obtain ⟨fr2, l2, v2, es2, hs2, hm2⟩ := hgo τ
     rcases step_follow (c0 := noWay S) (base := []) (v := v.re τ) T hsw hf hl hm' with ⟨o, v1, es1, hs⟩ | ⟨fr1, v1, es1, ch, hs, hpm, _⟩ | ⟨fr1, l1, fr1', l1', v1, es1, hs, hf1, hm1, hl1, hsw1, hd1, ht1, hall⟩
     · have := hs.symm.trans hs2
       cases this
     · have := hs.symm.trans hs2
       simp only [gor, GStep.go.injEq, Goroutine.mk.injEq] at this
       rw [← this.1.1, hpm] at hm2
       rcases hm2 with x | x <;> cases x
     · obtain ⟨w1, es1', es3, hs', hA, hsub⟩ := hall J (w.at d) ((hr.at d).reS τ) (fun j q hj => by
         show w.tape (d + j) q = w.tape (d + (v.drawn + j - v.drawn)) q
         rw [Nat.add_sub_cancel_left])
       refine ⟨gor fr1' l1', w1, es1', ?_, fun e he => ?_, hA.size, fr1, l1, fr1', l1', v1, rfl, .one ⟨hne, τ, es1, hs⟩, hf1, hm1, hl1, hsw1, hA.rel, ?_⟩
       · rw [hga.step]; simpa [gor] using hs'
       · obtain ⟨new, hn, hok⟩ := hA.evs
         have := hsub e he
         rw [hn] at this
         simp only [Array.empty_append] at this
         exact evL_of_ok (hok e this)
       · have := Kept.after hA
         exact ⟨this.sub, this.new, this.keep, this.os, this.out, this.size⟩
   obtain ⟨N, gs', a', w', sl', t', q', hrun, h0', ⟨fr1, l1, fr1', l1', v1, rfl, hpath, hf1, hm1, hl1, hsw1, hr1, hk1⟩, hL', hP'⟩ := one_beside _ gs ga w sl t q (Nat.le_refl _) h0 hga.run hL hP one
   exact .of_run hrun (ih _ hpath J₀ J w₀ w' fr1' l1' (gor fr1' l1') gs' sl' t' q' hf1 hm1 hl1 hsw1 hr1 (hk.trans hk1) (.inl rfl) h0' hL' hP')
theorem main_of_runs {Post : Value → World → Prop} (T : Twins P S K) (hab : K.a ≠ K.b) (hin : ∀ (f : FuncId) (g : Func), S.funcs[f]? = some g → g.body.isSome = true → P.inits.idxOf? f = none) (hole : HoleOk P S K Post)
   {fr : Frame} {l : List Frame} {v : World} (h : Runs S Post fr l v) : Main P S K Post (fr, l, v) ∧ ∀ y, Path S (fr, l, v) y → Main P S K Post y := by
 induction h with
 | @done fr v h =>
   refine ⟨main_done T hin h, fun y hy => ?_⟩
   have h0 := (h v.tape).1
   cases hy with
   | one hn => exact absurd ⟨h0, rfl⟩ hn.1
   | cons hn _ => exact absurd ⟨h0, rfl⟩ hn.1
 | @step fr l v hne hgo hst ih =>
   have hpath : ∀ y, Path S (fr, l, v) y → Main P S K Post y := by
     intro y hy
     cases hy with
     | one hn =>
       obtain ⟨_, τ, es, hs⟩ := hn
       exact (ih τ y.1 y.2.1 y.2.2 es hs).1
     | @cons _ z _ hn hp =>
       obtain ⟨_, τ, es, hs⟩ := hn
       exact (ih τ z.1 z.2.1 z.2.2 es hs).2 y hp
   exact ⟨main_step T hab hole (.step hne hgo hst) hne hgo hpath, hpath⟩
end
end Go.Proofs.Ytcoppnbjpncdcaa.Sim
end
section
set_option linter.unusedVariables false
set_option linter.unusedSimpArgs false
namespace Go.Proofs.Ytcoppnbjpncdcaa.Q
open Go Go.Conc Go.Proofs.Ytcoppnbjpncdcaa.Sim
open Go.ConcR (mk KK WgAt wgBlock stA smA rd wr)
open Go.ConcN (sumTo upd sumTo_upd upd_ne upd_same)
structure TX (X : World → MemAct → Prop) : Prop where
 draw : ∀ w d a, X w a → X (w.at d) a
 mute : ∀ w (e : Event), e.mute = true → X w (MemAct.ofEvent e)
structure DX (Sh : Loc → Prop) (X : World → MemAct → Prop) (w w' : World) (es : Array Event) : Prop where
 ev : ∀ e ∈ es, EvL Sh w'.heap.size e ∧ X w' (MemAct.ofEvent e)
 size : w.heap.size ≤ w'.heap.size
 keep : ∀ a, X w a → X w' a
section
variable {P : Program} {Sh : Loc → Prop} {X : World → MemAct → Prop}
theorem x_app {w : World} {t : Trace} {g : Nat} {fn : FuncId} {pos : String} {es : Array Event} (h : ∀ op ∈ t, X w op.act) (he : ∀ e ∈ es, X w (MemAct.ofEvent e)) : ∀ op ∈ t ++ MemOp.ofEvents g fn pos es, X w op.act := by
 intro op hop
 rcases Array.mem_append.1 hop with h' | h'
 · exact h op h'
 · obtain ⟨e, hee, rfl⟩ := Go.Conc.mem_ofEvents h'
   exact he e hee
theorem one_besideX (TXx : TX X) {Q : Goroutine → World → Prop} : ∀ (M : Nat) (gs : Array Goroutine) (a : Goroutine) (w : World) (sl : Option (Nat × Nat)) (t : Trace) (q : Nat → Nat), sumTo gs.size q ≤ M → gs[0]? = some a → a.status = .running → Leavers P t gs q → Past Sh w.heap.size t → (∀ op ∈ t, X w op.act) →
   (∀ d, ∃ a' w' es, stepG P true a (w.at d) = .go a' w' es ∧ DX Sh X (w.at d) w' es ∧ Q a' w') →
   ∃ (N : Nat) (gs' : Array Goroutine) (a' : Goroutine) (w' : World) (sl' : Option (Nat × Nat)) (t' : Trace) (q' : Nat → Nat),
     runNT P N (crowd gs w sl) t = (.next (crowd gs' w' sl'), t') ∧ gs'[0]? = some a' ∧ Q a' w' ∧ Leavers P t' gs' q' ∧ Past Sh w'.heap.size t' ∧ ∀ op ∈ t', X w' op.act := by
 intro M
 induction M using Nat.strongRecOn with
 | ind M ih =>
 intro gs a w sl t q hM h0 hrun hL hP hX hstep
 have haw : ∀ g ∈ gs, awake g := by
   intro g hg
   obtain ⟨i, hi, rfl⟩ := Array.mem_iff_getElem.1 hg
   rcases Nat.eq_zero_or_pos i with rfl | hpos
   · have : gs[0] = a := by simpa [Array.getElem?_eq_getElem hi] using h0
     rw [this]; exact awake_of (.inl hrun)
   · exact awake_of ((hL.old i _ hpos (Array.getElem?_eq_getElem hi)).status.elim .inl fun x => .inr (.inr x))
 obtain ⟨i, g, d, sl', hi, hg, hst⟩ := crowd_pick (P := P) (w := w) (sl := sl) haw ⟨0, a, h0, hrun⟩
 rcases Nat.eq_zero_or_pos i with rfl | hpos
 · obtain rfl : g = a := by rw [h0] at hi; exact (Option.some.inj hi).symm
   obtain ⟨a', w', es, hgo, hD, hQ⟩ := hstep d
   have hrunT := runT_crowd_go (P := P) (sl := sl') (i := 0) hi (show stepG P (0 == 0) g (w.at d) = _ from hgo)
   have hlt : 0 < gs.size := (Array.getElem?_eq_some_iff.1 h0).1
   have hsz : w.heap.size ≤ w'.heap.size := hD.size
   refine ⟨1, (gs.map (woken P g a' w')).setIfInBounds 0 a', a', w', sl', t ++ MemOp.ofEvents 0 g.frame.fn g.frame.place es, q, by simp only [runNT, hst, hrunT], by simp [hlt], hQ,
     ⟨fun j x hj hx => ?_, fun j hj => ?_⟩, (hP.mono hsz).own fun e he => (hD.ev e he).1, x_app (fun op hop => hD.keep _ (TXx.draw _ _ _ (hX op hop))) fun e he => (hD.ev e he).2⟩
   · have hne : 0 ≠ j := by omega
     rw [Array.getElem?_setIfInBounds_ne hne, Array.getElem?_map] at hx
     obtain ⟨y, hy, rfl⟩ := Option.map_eq_some_iff.1 hx
     have hq := hL.old j y hj hy
     rw [woken_quitsD hq, Deaf_other t (by omega) _ (fun op hop => by obtain ⟨e, _, rfl⟩ := Go.Conc.mem_ofEvents hop; rfl)]
     exact hq
   · rw [Deaf_other t (g' := 0) (by simp at hj; omega) _ (fun op hop => by obtain ⟨e, _, rfl⟩ := Go.Conc.mem_ofEvents hop; rfl)]
     exact hL.above j (by simpa using hj)
 · have hq := hL.old i g hpos hi
   have hi0 : (i == 0) = false := by simp; omega
   have hlt : i < gs.size := (Array.getElem?_eq_some_iff.1 hi).1
   cases hqi : q i with
   | zero => rw [hqi] at hq; rw [hq.1] at hg; cases hg
   | succ k =>
     rw [hqi] at hq
     rcases hq with ⟨hf, _⟩ | ⟨_, g', es, hm, hstp, hq'⟩
     · rw [hf] at hg; cases hg
     have hrunT := runT_crowd_go (P := P) (sl := sl') (i := i) hi (by rw [hi0]; exact hstp (w.at d))
     have hsz : ((gs.map (woken P g g' (w.at d))).setIfInBounds i g').size = gs.size := by simp
     have hsum : sumTo gs.size (upd q i k) + (k + 1) = sumTo gs.size q + k := by
       have := sumTo_upd q k id hlt
       simpa [hqi] using this
     obtain ⟨N, gs', a'', w'', sl'', t', q', hr, h0', hS, hL', hP', hX'⟩ := ih (sumTo gs.size (upd q i k)) (by omega) ((gs.map (woken P g g' (w.at d))).setIfInBounds i g') a (w.at d) sl' (t ++ MemOp.ofEvents i g.frame.fn g.frame.place es) (upd q i k) (by rw [hsz]; exact Nat.le_refl _)
       (by
         have hne : i ≠ 0 := by omega
         rw [Array.getElem?_setIfInBounds_ne hne, Array.getElem?_map, h0]
         simp [woken_run hrun]) hrun
       ⟨fun j x hj hx => by
         by_cases hji : i = j
         · subst hji
           rw [Array.getElem?_setIfInBounds_self_of_lt (by simpa using hlt)] at hx
           obtain rfl := Option.some.inj hx
           rw [upd_same, Deaf_own]
           exact hq'
         · rw [Array.getElem?_setIfInBounds_ne hji, Array.getElem?_map] at hx
           obtain ⟨y, hy, rfl⟩ := Option.map_eq_some_iff.1 hx
           have hqj := hL.old j y hj hy
           rw [woken_quitsD hqj, upd_ne q k (Ne.symm hji), Deaf_other t hji _ (fun op hop => by obtain ⟨e, _, rfl⟩ := Go.Conc.mem_ofEvents hop; rfl)]
           exact hqj, fun j hj => by
         rw [Deaf_other t (g' := i) (by simp at hj; omega) _ (fun op hop => by obtain ⟨e, _, rfl⟩ := Go.Conc.mem_ofEvents hop; rfl)]
         exact hL.above j (by simpa using hj)⟩
       (hP.mute (by omega) hm) (x_app (fun op hop => TXx.draw _ _ _ (hX op hop)) fun e he => TXx.mute _ e (hm e he)) (fun d' => hstep d')
     exact ⟨N + 1, gs', a'', w'', sl'', t', q', by simp only [runNT, hst, hrunT]; exact hr, h0', hS, hL', hP', hX'⟩
theorem goes_besideX (TXx : TX X) {Stop : Goroutine → World → Prop} : ∀ (n : Nat) (gs : Array Goroutine) (a : Goroutine) (w : World) (sl : Option (Nat × Nat)) (t : Trace) (q : Nat → Nat), gs[0]? = some a → Leavers P t gs q → Past Sh w.heap.size t → (∀ op ∈ t, X w op.act) →
   Goes P true AtRel (DX Sh X) Stop n a w →
   ∃ (N : Nat) (gs' : Array Goroutine) (a' : Goroutine) (w' : World) (sl' : Option (Nat × Nat)) (t' : Trace) (q' : Nat → Nat),
     runNT P N (crowd gs w sl) t = (.next (crowd gs' w' sl'), t') ∧ gs'[0]? = some a' ∧ Stop a' w' ∧ Leavers P t' gs' q' ∧ Past Sh w'.heap.size t' ∧ ∀ op ∈ t', X w' op.act
 | 0, gs, a, w, sl, t, q, h0, hL, hP, hX, hG => ⟨0, gs, a, w, sl, t, q, rfl, h0, hG w (atRel_refl w), hL, hP, hX⟩
 | n + 1, gs, a, w, sl, t, q, h0, hL, hP, hX, hG => by
   rcases hG with hstop | ⟨hrun, hstep⟩
   · exact ⟨0, gs, a, w, sl, t, q, rfl, h0, hstop w (atRel_refl w), hL, hP, hX⟩
   obtain ⟨N, gs', a', w', sl', t', q', hr, h0', hQ, hL', hP', hX'⟩ := one_besideX TXx (Q := fun a' w' => Goes P true AtRel (DX Sh X) Stop n a' w') _ gs a w sl t q (Nat.le_refl _) h0 hrun hL hP hX (fun d => by
     have := hstep (w.at d) ⟨d, rfl⟩
     cases hgo : stepG P true a (w.at d) with
     | go a' w' es => rw [hgo] at this; exact ⟨a', w', es, rfl, this.1, this.2⟩
     | _ => rw [hgo] at this; exact this.elim)
   obtain ⟨M, gs'', a'', w'', sl'', t'', q'', hr', h0'', hS, hL'', hP'', hX''⟩ := goes_besideX TXx n gs' a' w' sl' t' q' h0' hL' hP' hX' hQ
   exact ⟨N + M, gs'', a'', w'', sl'', t'', q'', by rw [runNT_add, hr]; exact hr', h0'', hS, hL'', hP'', hX''⟩
end
section
variable {w : World} {ρ : Operand → Value} {o : Oper}
theorem made2 (a : Value) (n : Nat) : madeCells #[a, a] (2 * n) = Array.replicate (2 * n) a := by
 apply Array.ext
 · simp [madeCells]
 · intro i h1 h2
   simp only [madeCells, Array.getElem_map, Array.getElem_range, Array.getElem_replicate]
   rcases (show i % 2 = 0 ∨ i % 2 = 1 by omega) with h | h <;> simp [h]
theorem made1 (a : Value) (n : Nat) : madeCells #[a] n = Array.replicate n a := by
 apply Array.ext
 · simp [madeCells]
 · intro i h1 h2
   simp only [madeCells, Array.getElem_map, Array.getElem_range, Array.getElem_replicate]
   simp [Nat.mod_one]
theorem run_mk28 {x y : Operand} {n : Nat} (hn : n ≤ 9) (hop : o.op = .makeSlice 28 x y) (hx : ρ x = .int .i64 n) (hy : ρ y = .int .i64 n) :
   (execOp ρ o).run Try.prog w = .ok (.value (.slice (some ⟨w.heap.size, 0, none⟩) n n)) { w with heap := w.heap.push (.cells (Array.replicate (2 * n) (.int .i64 0)) 30) } ∧ (execOp ρ o).events Try.prog w #[] = #[] := by
 have h := run_make (P := Try.prog) w 28 30 Try.t30 (.agg #[.int .i64 0, .int .i64 0]) (by kernel_rfl) (by kernel_rfl) (by kernel_rfl) .i64 .i64 n n (by omega) (by omega) (by rw [show Try.t30.bytes = 16 by kernel_rfl]; omega) (by omega)
 unfold execOp
 simp only [hop, hx, hy]
 have e : (Value.agg #[.int .i64 0, .int .i64 0]).cells = #[.int .i64 0, .int .i64 0] := rfl
 rw [e, show Try.t30.size = 2 by kernel_rfl, Int.toNat_natCast, Nat.mul_comm, made2] at h
 refine ⟨?_, ?_⟩
 · simp [go_sem, h]
 · rcases (show n = 0 ∨ n = 1 ∨ n = 2 ∨ n = 3 ∨ n = 4 ∨ n = 5 ∨ n = 6 ∨ n = 7 ∨ n = 8 ∨ n = 9 by omega) with rfl | rfl | rfl | rfl | rfl | rfl | rfl | rfl | rfl | rfl <;>
     (simp [go_sem, Instr.makeSlice, Go.newRow, IntKind.wrap_i64, Try.t30] <;> rfl)
theorem run_mk66 {x y : Operand} {n : Nat} (hn : n ≤ 9) (hop : o.op = .makeSlice 66 x y) (hx : ρ x = .int .i64 n) (hy : ρ y = .int .i64 n) :
   (execOp ρ o).run Try.prog w = .ok (.value (.slice (some ⟨w.heap.size, 0, none⟩) n n)) { w with heap := w.heap.push (.cells (Array.replicate n (.bool false)) 4) } ∧ (execOp ρ o).events Try.prog w #[] = #[] := by
 have h := run_make (P := Try.prog) w 66 4 Try.t4 (.bool false) (by kernel_rfl) (by kernel_rfl) (by kernel_rfl) .i64 .i64 n n (by omega) (by omega) (by rw [show Try.t4.bytes = 1 by kernel_rfl]; omega) (by omega)
 unfold execOp
 simp only [hop, hx, hy]
 have e : (Value.bool false).cells = #[.bool false] := rfl
 rw [e, show Try.t4.size = 1 by kernel_rfl, Int.toNat_natCast, Nat.mul_one, made1] at h
 refine ⟨?_, ?_⟩
 · simp [go_sem, h]
 · rcases (show n = 0 ∨ n = 1 ∨ n = 2 ∨ n = 3 ∨ n = 4 ∨ n = 5 ∨ n = 6 ∨ n = 7 ∨ n = 8 ∨ n = 9 by omega) with rfl | rfl | rfl | rfl | rfl | rfl | rfl | rfl | rfl | rfl <;>
     (simp [go_sem, Instr.makeSlice, Go.newRow, IntKind.wrap_i64, Try.t4] <;> rfl)
theorem run_bd75 {x y : Operand} {g h : Nat} {n : Nat} (hop : o.op = .build 75 #[(1, x), (2, y)]) (hx : ρ x = .slice (some ⟨g, 0, none⟩) n n) (hy : ρ y = .slice (some ⟨h, 0, none⟩) n n) :
   (execOp ρ o).run Try.prog w = .ok (.value (.agg #[.int .i32 0, .int .u32 0, .slice (some ⟨g, 0, none⟩) n n, .slice (some ⟨h, 0, none⟩) n n])) w ∧ (execOp ρ o).events Try.prog w #[] = #[] := by
 unfold execOp
 simp only [hop]
 constructor <;> simp [go_sem, hx, hy, Instr.build]
theorem run_bx75 {x : Operand} {a b c d : Value} (hop : o.op = .box 75 x) (hx : ρ x = .agg #[a, b, c, d]) :
   (execOp ρ o).run Try.prog w = .ok (.value (.pointer (some ⟨w.heap.size, 0, none⟩))) { w with heap := w.heap.push (.cells #[a, b, c, d] 75) } ∧ (execOp ρ o).events Try.prog w #[] = #[] := by
 unfold execOp
 simp only [hop, hx]
 constructor <;> simp [go_sem, Go.newVar, Go.newRow, Value.cells]
theorem run_al65 (hop : o.op = .alloc 65) :
   (execOp ρ o).run Try.prog w = .ok (.value (.pointer (some ⟨w.heap.size, 0, none⟩))) { w with heap := w.heap.push (.cells #[.pointer none] 65) } ∧ (execOp ρ o).events Try.prog w #[] = #[] := by
 unfold execOp
 simp only [hop]
 constructor <;> simp [go_sem, Instr.alloc, Go.newVar, Go.newRow, Value.cells]
theorem run_al82 (hop : o.op = .alloc 82) :
   (execOp ρ o).run Try.prog w = .ok (.value (.pointer (some ⟨w.heap.size, 0, none⟩))) { w with heap := w.heap.push (.cells #[.int .u64 0, .int .u32 0] 82) } ∧ (execOp ρ o).events Try.prog w #[] = #[] := by
 unfold execOp
 simp only [hop]
 constructor <;> simp [go_sem, Instr.alloc, Go.newVar, Go.newRow, Value.cells]
theorem run_len28 {x : Operand} {a : Option Addr} {n c : Nat} {ats : Array TypeId} (hop : o.op = .call { callee := .builtin .len, args := #[x], argTypes := ats }) (ha : ats = #[28]) (hx : ρ x = .slice a n c) :
   (execOp ρ o).run Try.prog w = .ok (.value (.int .i64 n)) w ∧ (execOp ρ o).events Try.prog w #[] = #[] := by
 subst ha
 unfold execOp
 simp only [hop]
 constructor <;> simp [go_sem, hx]
end
end Go.Proofs.Ytcoppnbjpncdcaa.Q
end
section
set_option linter.unusedVariables false
set_option linter.unusedSimpArgs false
namespace Go.Proofs.Ytcoppnbjpncdcaa.Q
open Go Go.Conc Go.Proofs.Ytcoppnbjpncdcaa.Sim
open Go.ConcR (mk KK WgAt wgBlock stA smA rd wr)
noncomputable def tail38 : Code := snd (snd body38)
noncomputable def ops2 : Array Oper := opsOf (fst tail38)
noncomputable def ops3 : Array Oper := opsOf (fst (snd tail38))
noncomputable def ops4z : Array Oper := opsOf (fst (fst (snd (snd tail38))))
theorem ops2_size : ops2.size = 10 := by kernel_rfl
theorem ops3_size : ops3.size = 1 := by kernel_rfl
theorem ops4z_size : ops4z.size = 3 := by kernel_rfl
def XB (B0 : Nat) (w : World) (act : MemAct) : Prop :=
 (∀ x, act.touch? = some x → ∀ a : Addr, x.loc = .cell a → a.block < B0 ∨ ∃ c, w.heap[a.block]? = some (.cells c 65)) ∧ ∀ a : Addr, act = .mark (.release a) → a.block < B0
theorem xb_tx (B0 : Nat) : TX (XB B0) := ⟨fun w d a h => h, fun w e he => ⟨fun x hx => (by rw [touch_mute he] at hx; cases hx), fun a ha => by
 obtain ⟨loc, wr, sy⟩ := e
 cases loc <;> simp_all [Event.mute]
 rename_i m
 cases m <;> simp_all [MemAct.ofEvent]⟩⟩
theorem xb_low {B0 : Nat} (w : World) {act : MemAct} (h : act.low B0) : XB B0 w act := by
 refine ⟨fun x hx a ha => .inl ?_, fun a ha => by subst ha; exact h⟩
 cases act with
 | access e =>
   simp only [MemAct.touch?, Option.some.injEq] at hx
   subst hx
   have h' : e.loc.low B0 := h
   dsimp only at ha
   rw [ha] at h'
   exact h'
 | mark m =>
   cases m <;> simp only [MemAct.touch?] at hx <;> first | (cases hx; done) | skip
   all_goals
     simp only [Option.some.injEq] at hx
     subst hx
     simp only [Loc.cell.injEq] at ha
     subst ha
     exact h
 | _ => simp [MemAct.touch?] at hx
theorem xb_keep {B0 : Nat} {w w' : World} (h : ∀ (b : Nat) (c : Array Value), w.heap[b]? = some (Obj.cells c 65) → ∃ c' : Array Value, w'.heap[b]? = some (Obj.cells c' 65)) (a : MemAct) (hx : XB B0 w a) : XB B0 w' a :=
 ⟨fun x hxx ad ha => (hx.1 x hxx ad ha).imp id fun ⟨c, hc⟩ => h _ c hc, hx.2⟩
section
variable (N n : Nat) (sl : Value) (w : World)
def GkOk (g : Nat) : Prop := N ≤ g ∧ w.heap[g]? = some (.cells (Array.replicate (2 * n) (.int .i64 0)) 30)
def HkOk (h : Nat) : Prop := N ≤ h ∧ w.heap[h]? = some (.cells (Array.replicate n (.bool false)) 4)
def FkOk (f g h : Nat) : Prop := N ≤ f ∧ w.heap[f]? = some (.cells #[.int .i32 0, .int .u32 0, .slice (some ⟨g, 0, none⟩) n n, .slice (some ⟨h, 0, none⟩) n n] 75)
def VkOk (b : Nat) (c : Value) : Prop := N ≤ b ∧ w.heap[b]? = some (.cells #[c] 65)
end
def Fact (N n : Nat) (sl : Value) : Nat → Array Value → World → Prop
 | 0, T, _ => evalT T (.tmp 18) = sl
 | 1, T, _ => evalT T (.tmp 19) = .int .i64 n
 | 2, T, w => ∃ g, GkOk N n w g ∧ evalT T (.tmp 20) = .slice (some ⟨g, 0, none⟩) n n
 | 3, T, _ => evalT T (.tmp 21) = sl
 | 4, T, _ => evalT T (.tmp 22) = .int .i64 n
 | 5, T, w => ∃ h, HkOk N n w h ∧ evalT T (.tmp 23) = .slice (some ⟨h, 0, none⟩) n n
 | 6, T, w => ∃ g h, GkOk N n w g ∧ HkOk N n w h ∧ evalT T (.tmp 24) = .agg #[.int .i32 0, .int .u32 0, .slice (some ⟨g, 0, none⟩) n n, .slice (some ⟨h, 0, none⟩) n n]
 | 7, T, w => ∃ f g h, GkOk N n w g ∧ HkOk N n w h ∧ FkOk N n w f g h ∧ evalT T (.tmp 25) = .pointer (some ⟨f, 0, none⟩)
 | 8, T, w => ∃ b c, VkOk N w b c ∧ evalT T (.tmp 8) = .pointer (some ⟨b, 0, none⟩)
 | 9, T, w => ∃ b f g h, GkOk N n w g ∧ HkOk N n w h ∧ FkOk N n w f g h ∧ VkOk N w b (.pointer (some ⟨f, 0, none⟩)) ∧ evalT T (.tmp 8) = .pointer (some ⟨b, 0, none⟩)
 | _, _, _ => True
def sl2 : Nat → Nat := fun i => [18, 19, 20, 21, 22, 23, 24, 25, 8, 8].getD i 0
def cn (l : Array Bool) : Nat := (if l.getD 2 true then 1 else 0) + (if l.getD 5 true then 1 else 0) + (if l.getD 7 true then 1 else 0) + (if l.getD 8 true then 1 else 0)
structure I2 (N n : Nat) (sl : Value) (T0 : Array Value) (w0 : World) (l : Array Bool) (T : Array Value) (w : World) : Prop where
 size : T.size = 63
 s5 : evalT T (.tmp 5) = evalT T0 (.tmp 5)
 s7 : evalT T (.tmp 7) = sl
 lsz : l.size = 10
 facts : ∀ j, j < 10 → l.getD j true = true → Fact N n sl j T w
 dep : l.getD 9 true = true → l.getD 8 true = true
 cnt : w.heap.size = N + cn l
 old : ∀ b : Nat, b < N → w.heap[b]? = w0.heap[b]?
 os : w.os = w0.os
 out : w.output = w0.output
 tape : w.tape = w0.tape
section
variable {N n : Nat} {sl : Value} {T0 T : Array Value} {w0 w w' : World} {l : Array Bool}
theorem Fact.keep (hm : ∀ (b : Nat) (o : Obj), N ≤ b → w.heap[b]? = some o → w'.heap[b]? = some o) {d : Nat} {v : Value} (hsz : T.size = 63) (hd : d < 63) {j : Nat} (hj : j < 10) (hne : sl2 j ≠ d) (h : Fact N n sl j T w) : Fact N n sl j (putT T (some d) v) w' := by
 have e : ∀ s : Nat, s ≠ d → evalT (putT T (some d) v) (.tmp s) = evalT T (.tmp s) := fun s hs => ev_ne hsz hd hs
 have hg : ∀ g, GkOk N n w g → GkOk N n w' g := fun g x => ⟨x.1, hm _ _ x.1 x.2⟩
 have hh : ∀ g, HkOk N n w g → HkOk N n w' g := fun g x => ⟨x.1, hm _ _ x.1 x.2⟩
 have hf : ∀ f g h, FkOk N n w f g h → FkOk N n w' f g h := fun f g h x => ⟨x.1, hm _ _ x.1 x.2⟩
 have hv : ∀ b c, VkOk N w b c → VkOk N w' b c := fun b c x => ⟨x.1, hm _ _ x.1 x.2⟩
 rcases (show j = 0 ∨ j = 1 ∨ j = 2 ∨ j = 3 ∨ j = 4 ∨ j = 5 ∨ j = 6 ∨ j = 7 ∨ j = 8 ∨ j = 9 by omega) with rfl | rfl | rfl | rfl | rfl | rfl | rfl | rfl | rfl | rfl
 · exact (e 18 hne).trans h
 · exact (e 19 hne).trans h
 · obtain ⟨g, h1, h2⟩ := h
   exact ⟨g, hg _ h1, (e 20 hne).trans h2⟩
 · exact (e 21 hne).trans h
 · exact (e 22 hne).trans h
 · obtain ⟨g, h1, h2⟩ := h
   exact ⟨g, hh _ h1, (e 23 hne).trans h2⟩
 · obtain ⟨g, k, h1, h2, h3⟩ := h
   exact ⟨g, k, hg _ h1, hh _ h2, (e 24 hne).trans h3⟩
 · obtain ⟨f, g, k, h1, h2, h3, h4⟩ := h
   exact ⟨f, g, k, hg _ h1, hh _ h2, hf _ _ _ h3, (e 25 hne).trans h4⟩
 · obtain ⟨b, c, h1, h2⟩ := h
   exact ⟨b, c, hv _ _ h1, (e 8 hne).trans h2⟩
 · obtain ⟨b, f, g, k, h1, h2, h3, h4, h5⟩ := h
   exact ⟨b, f, g, k, hg _ h1, hh _ h2, hf _ _ _ h3, hv _ _ h4, (e 8 hne).trans h5⟩
theorem getD_set (l : Array Bool) {i : Nat} (hi : i < l.size) (j : Nat) (d : Bool) : (l.setIfInBounds i true).getD j d = if j = i then true else l.getD j d := by
 by_cases h : j = i
 · subst h
   rw [if_pos rfl]
   simp [Array.getD_eq_getD_getElem?, hi]
 · rw [if_neg h]
   exact getD_set_ne d (Ne.symm h)
theorem I2.next (h : I2 N n sl T0 w0 l T w) {i : Nat} (hi : i < 9) (hf : l.getD i true = false) {v : Value} (hw : (w' = w ∧ i ≠ 2 ∧ i ≠ 5 ∧ i ≠ 7 ∧ i ≠ 8) ∨ ((i = 2 ∨ i = 5 ∨ i = 7 ∨ i = 8) ∧ ∃ ob, w' = { w with heap := w.heap.push ob }))
   (hF : Fact N n sl i (putT T (some (sl2 i)) v) w') : I2 N n sl T0 w0 (l.setIfInBounds i true) (putT T (some (sl2 i)) v) w' := by
 have hil : i < l.size := by rw [h.lsz]; omega
 have hlt : sl2 i < 63 := by
   rcases (show i = 0 ∨ i = 1 ∨ i = 2 ∨ i = 3 ∨ i = 4 ∨ i = 5 ∨ i = 6 ∨ i = 7 ∨ i = 8 by omega) with rfl | rfl | rfl | rfl | rfl | rfl | rfl | rfl | rfl <;> decide
 have h57 : sl2 i ≠ 5 ∧ sl2 i ≠ 7 := by
   rcases (show i = 0 ∨ i = 1 ∨ i = 2 ∨ i = 3 ∨ i = 4 ∨ i = 5 ∨ i = 6 ∨ i = 7 ∨ i = 8 by omega) with rfl | rfl | rfl | rfl | rfl | rfl | rfl | rfl | rfl <;> decide
 have hm : ∀ (b : Nat) (o : Obj), N ≤ b → w.heap[b]? = some o → w'.heap[b]? = some o := by
   intro b o _ ho
   rcases hw with ⟨rfl, _⟩ | ⟨_, ob, rfl⟩
   · exact ho
   · exact (push_old w ob (Array.getElem?_eq_some_iff.1 ho).1).trans ho
 have hold : ∀ b : Nat, b < N → w'.heap[b]? = w.heap[b]? := by
   intro b hb
   rcases hw with ⟨rfl, _⟩ | ⟨_, ob, rfl⟩
   · rfl
   · exact push_old w ob (by have := h.cnt; omega)
 refine ⟨by rw [size_putT]; exact h.size, (ev_ne h.size hlt (Ne.symm h57.1)).trans h.s5, (ev_ne h.size hlt (Ne.symm h57.2)).trans h.s7, by simp [h.lsz], fun j hj hjl => ?_, fun h9 => ?_, ?_, fun b hb => (hold b hb).trans (h.old b hb), ?_, ?_, ?_⟩
 · by_cases e : j = i
   · exact e ▸ hF
   · rw [getD_set l hil, if_neg e] at hjl
     refine Fact.keep hm h.size hlt hj ?_ (h.facts j hj hjl)
     intro es
     have : (i = 8 ∧ j = 9) ∨ ¬ (sl2 j = sl2 i) := by
       rcases (show i = 0 ∨ i = 1 ∨ i = 2 ∨ i = 3 ∨ i = 4 ∨ i = 5 ∨ i = 6 ∨ i = 7 ∨ i = 8 by omega) with rfl | rfl | rfl | rfl | rfl | rfl | rfl | rfl | rfl <;>
       rcases (show j = 0 ∨ j = 1 ∨ j = 2 ∨ j = 3 ∨ j = 4 ∨ j = 5 ∨ j = 6 ∨ j = 7 ∨ j = 8 ∨ j = 9 by omega) with rfl | rfl | rfl | rfl | rfl | rfl | rfl | rfl | rfl | rfl <;> first | (exact absurd rfl e) | (exact .inr (by decide)) | exact .inl ⟨rfl, rfl⟩
     rcases this with ⟨rfl, rfl⟩ | x
     · have := h.dep hjl
       rw [hf] at this
       cases this
     · exact x es
 · rw [getD_set l hil] at h9 ⊢
   by_cases e8 : 8 = i
   · rw [if_pos e8]
   · rw [if_neg e8]
     rw [if_neg (by omega)] at h9
     exact h.dep h9
 · have hc := h.cnt
   unfold cn at hc ⊢
   simp only [getD_set l hil]
   rcases hw with ⟨rfl, n2, n5, n7, n8⟩ | ⟨hi4, ob, rfl⟩
   · rw [if_neg (Ne.symm n2), if_neg (Ne.symm n5), if_neg (Ne.symm n7), if_neg (Ne.symm n8)]
     exact hc
   · simp only [Array.size_push]
     rcases hi4 with rfl | rfl | rfl | rfl <;> (rw [hf] at hc; simp only [Bool.false_eq_true, if_false, if_true, Nat.reduceEqDiff] at hc ⊢; omega)
 · rcases hw with ⟨rfl, _⟩ | ⟨_, ob, rfl⟩ <;> exact h.os
 · rcases hw with ⟨rfl, _⟩ | ⟨_, ob, rfl⟩ <;> exact h.out
 · rcases hw with ⟨rfl, _⟩ | ⟨_, ob, rfl⟩ <;> exact h.tape
end
end Go.Proofs.Ytcoppnbjpncdcaa.Q
end
section
set_option linter.unusedVariables false
set_option linter.unusedSimpArgs false
namespace Go.Proofs.Ytcoppnbjpncdcaa.Q
open Go Go.Conc Go.Proofs.Ytcoppnbjpncdcaa.Sim
open Go.ConcR (mk KK WgAt wgBlock stA smA rd wr)
theorem pick_done {ops : Array Oper} {l : Array Bool} {i : Nat} (h : Pick ops l i) {o : Oper} (ho : ops[i]? = some o) {j : Nat} {g : Ground} (he : ({ on := j, ground := g } : Edge) ∈ o.after) (hb : Region.binds .any { on := j, ground := g } = true) : l.getD j true = true := by
 obtain ⟨o', ho', _, ha⟩ := h
 rw [ho] at ho'
 obtain rfl := Option.some.inj ho'
 have := ha _ he hb
 simp only [Array.getD_eq_getD_getElem?] at this ⊢
 cases hc : l[j]? with
 | none => rw [hc] at this; cases this
 | some x => rw [hc] at this; exact this
theorem run_move {w : World} {ρ : Operand → Value} {o : Oper} {x : Operand} {v : Value} (hop : o.op = .move x) (hx : ρ x = v) : (execOp ρ o).run Try.prog w = .ok (.value v) w ∧ (execOp ρ o).events Try.prog w #[] = #[] := by
 unfold execOp
 simp only [hop, hx]
 constructor <;> simp [go_sem]
section
variable {N n : Nat} {a : Option Addr} {c : Nat} {T0 : Array Value} {w0 : World} {Sh : Loc → Prop} {b : Frame} {cs : List Frame} {k : List Item}
theorem dx_idle {X : World → MemAct → Prop} (w : World) : DX Sh X w w #[] := ⟨by simp, Nat.le_refl _, fun _ h => h⟩
theorem dx_push {B0 : Nat} (w : World) (ob : Obj) : DX Sh (XB B0) w { w with heap := w.heap.push ob } #[] :=
 ⟨by simp, by simp, xb_keep fun b c hc => ⟨c, (push_old w ob (Array.getElem?_eq_some_iff.1 hc).1).trans hc⟩⟩
theorem r2_val (hb : b.kind ≠ .early) {l : Array Bool} {T : Array Value} {w : World} {i : Nat} {is : List Nat} (hI : I2 N n (.slice a n c) T0 w0 l T w) (hf : l.getD i true = false) (hi : i < 9) {o : Oper} {v : Value} {w' : World}
   (ho : ops2[i]? = some o) (hd : o.dst = some (sl2 i)) (hw : Region.wanted o (yieldedT ops2 T) = true) (hr : (execOp (evalT T) o).run Try.prog w = .ok (.value v) w' ∧ (execOp (evalT T) o).events Try.prog w #[] = #[])
   (hww : (w' = w ∧ i ≠ 2 ∧ i ≠ 5 ∧ i ≠ 7 ∧ i ≠ 8) ∨ ((i = 2 ∨ i = 5 ∨ i = 7 ∨ i = 8) ∧ ∃ ob, w' = { w with heap := w.heap.push ob })) (hF : Fact N n (.slice a n c) i (putT T (some (sl2 i)) v) w') :
   ∃ T' w' es, stepG Try.prog true (G (b.at ⟨T, []⟩ (.inRegion ops2 (i :: is) :: k)) cs) w = .go (G (b.at ⟨T', []⟩ (.inRegion ops2 is :: k)) cs) w' es ∧ DX Sh (XB N) w w' es ∧ I2 N n (.slice a n c) T0 w0 (l.setIfInBounds i true) T' w' := by
 have hst := stepG_value (P := Try.prog) (main := true) (b := b) (a := ⟨T, []⟩) (k := k) (cs := cs) (w := w) (rest := is) ho (wantedA hw) hb (by rw [evalA]; exact hr.1)
 rw [show listed Try.prog b.fn (Act.mk T []) o w = #[] by unfold listed; rw [evalA, hr.2]; exact seen_none Try.prog _, putA, hd] at hst
 refine ⟨_, _, _, hst, ?_, hI.next hi hf hww hF⟩
 rcases hww with ⟨rfl, _⟩ | ⟨_, ob, rfl⟩
 · exact dx_idle _
 · exact dx_push w ob
theorem r2_step (hb : b.kind ≠ .early) (hn : n ≤ 9) (hSh : ∀ x : Addr, N ≤ x.block → ¬ Sh (.cell x)) (l : Array Bool) (T : Array Value) (w : World) (i : Nat) (is : List Nat) (hp : Pick ops2 l i) (hi : i < ops2.size) (hI : I2 N n (.slice a n c) T0 w0 l T w) :
   ∃ T' w' es, stepG Try.prog true (G (b.at ⟨T, []⟩ (.inRegion ops2 (i :: is) :: k)) cs) w = .go (G (b.at ⟨T', []⟩ (.inRegion ops2 is :: k)) cs) w' es ∧ DX Sh (XB N) w w' es ∧ I2 N n (.slice a n c) T0 w0 (l.setIfInBounds i true) T' w' := by
 have hf : l.getD i true = false := by obtain ⟨o, _, h, _⟩ := hp; exact h
 rw [ops2_size] at hi
 have hN : N ≤ w.heap.size := by rw [hI.cnt]; omega
 have eq : ∀ {t : Nat} {v : Value}, t < 63 → evalT (putT T (some t) v) (.tmp t) = v := fun ht => ev_eq hI.size ht
 have old : ∀ {ob : Obj} {x : Nat} {o : Obj}, w.heap[x]? = some o → (w.heap.push ob)[x]? = some o := fun hx => (push_old w _ (Array.getElem?_eq_some_iff.1 hx).1).trans hx
 rcases (show i = 0 ∨ i = 1 ∨ i = 2 ∨ i = 3 ∨ i = 4 ∨ i = 5 ∨ i = 6 ∨ i = 7 ∨ i = 8 ∨ i = 9 by omega) with rfl | rfl | rfl | rfl | rfl | rfl | rfl | rfl | rfl | rfl
 · exact r2_val hb hI hf (by decide) (o := ops2[0]'(by rw [ops2_size]; decide)) (v := .slice a n c) rfl rfl rfl (run_move (x := .tmp 7) rfl hI.s7) (.inl ⟨rfl, by decide, by decide, by decide, by decide⟩) (eq (by decide))
 · have h0 := hI.facts 0 (by decide) (pick_done hp (o := ops2[1]'(by rw [ops2_size]; decide)) (j := 0) (g := .data) rfl (by rw [show (ops2[1]'(by rw [ops2_size]; decide)).after = #[{ on := 0, ground := .data }] from rfl]; simp) rfl)
   exact r2_val hb hI hf (by decide) (o := ops2[1]'(by rw [ops2_size]; decide)) (v := .int .i64 n) rfl rfl rfl (run_len28 (x := .tmp 18) (ats := #[28]) rfl rfl h0) (.inl ⟨rfl, by decide, by decide, by decide, by decide⟩) (eq (by decide))
 · have h0 := hI.facts 1 (by decide) (pick_done hp (o := ops2[2]'(by rw [ops2_size]; decide)) (j := 1) (g := .data) rfl (by rw [show (ops2[2]'(by rw [ops2_size]; decide)).after = #[{ on := 1, ground := .data }, { on := 1, ground := .data }] from rfl]; simp) rfl)
   exact r2_val hb hI hf (by decide) (o := ops2[2]'(by rw [ops2_size]; decide)) (v := .slice (some ⟨w.heap.size, 0, none⟩) n n) rfl rfl rfl (run_mk28 hn (x := .tmp 19) (y := .tmp 19) rfl h0 h0) (.inr ⟨.inl rfl, _, rfl⟩) ⟨w.heap.size, ⟨hN, by simp⟩, eq (by decide)⟩
 · exact r2_val hb hI hf (by decide) (o := ops2[3]'(by rw [ops2_size]; decide)) (v := .slice a n c) rfl rfl rfl (run_move (x := .tmp 7) rfl hI.s7) (.inl ⟨rfl, by decide, by decide, by decide, by decide⟩) (eq (by decide))
 · have h0 := hI.facts 3 (by decide) (pick_done hp (o := ops2[4]'(by rw [ops2_size]; decide)) (j := 3) (g := .data) rfl (by rw [show (ops2[4]'(by rw [ops2_size]; decide)).after = #[{ on := 3, ground := .data }] from rfl]; simp) rfl)
   exact r2_val hb hI hf (by decide) (o := ops2[4]'(by rw [ops2_size]; decide)) (v := .int .i64 n) rfl rfl rfl (run_len28 (x := .tmp 21) (ats := #[28]) rfl rfl h0) (.inl ⟨rfl, by decide, by decide, by decide, by decide⟩) (eq (by decide))
 · have h0 := hI.facts 4 (by decide) (pick_done hp (o := ops2[5]'(by rw [ops2_size]; decide)) (j := 4) (g := .data) rfl (by rw [show (ops2[5]'(by rw [ops2_size]; decide)).after = #[{ on := 4, ground := .data }, { on := 4, ground := .data }] from rfl]; simp) rfl)
   exact r2_val hb hI hf (by decide) (o := ops2[5]'(by rw [ops2_size]; decide)) (v := .slice (some ⟨w.heap.size, 0, none⟩) n n) rfl rfl rfl (run_mk66 hn (x := .tmp 22) (y := .tmp 22) rfl h0 h0) (.inr ⟨.inr (.inl rfl), _, rfl⟩) ⟨w.heap.size, ⟨hN, by simp⟩, eq (by decide)⟩
 · have aft : (ops2[6]'(by rw [ops2_size]; decide)).after = #[{ on := 2, ground := .data }, { on := 5, ground := .data }] := rfl
   obtain ⟨g, hg, h20⟩ := hI.facts 2 (by decide) (pick_done hp (o := ops2[6]'(by rw [ops2_size]; decide)) (j := 2) (g := .data) rfl (by rw [aft]; simp) rfl)
   obtain ⟨h, hh, h23⟩ := hI.facts 5 (by decide) (pick_done hp (o := ops2[6]'(by rw [ops2_size]; decide)) (j := 5) (g := .data) rfl (by rw [aft]; simp) rfl)
   exact r2_val hb hI hf (by decide) (o := ops2[6]'(by rw [ops2_size]; decide)) (v := .agg #[.int .i32 0, .int .u32 0, .slice (some ⟨g, 0, none⟩) n n, .slice (some ⟨h, 0, none⟩) n n]) rfl rfl rfl (run_bd75 (x := .tmp 20) (y := .tmp 23) rfl h20 h23) (.inl ⟨rfl, by decide, by decide, by decide, by decide⟩) ⟨g, h, hg, hh, eq (by decide)⟩
 · obtain ⟨g, h, hg, hh, h24⟩ := hI.facts 6 (by decide) (pick_done hp (o := ops2[7]'(by rw [ops2_size]; decide)) (j := 6) (g := .data) rfl (by rw [show (ops2[7]'(by rw [ops2_size]; decide)).after = #[{ on := 6, ground := .data }] from rfl]; simp) rfl)
   exact r2_val hb hI hf (by decide) (o := ops2[7]'(by rw [ops2_size]; decide)) (v := .pointer (some ⟨w.heap.size, 0, none⟩)) rfl rfl rfl (run_bx75 (x := .tmp 24) rfl h24) (.inr ⟨.inr (.inr (.inl rfl)), _, rfl⟩) ⟨w.heap.size, g, h, ⟨hg.1, old hg.2⟩, ⟨hh.1, old hh.2⟩, ⟨hN, by simp⟩, eq (by decide)⟩
 · exact r2_val hb hI hf (by decide) (o := ops2[8]'(by rw [ops2_size]; decide)) (v := .pointer (some ⟨w.heap.size, 0, none⟩)) rfl rfl rfl (run_al65 rfl) (.inr ⟨.inr (.inr (.inr rfl)), _, rfl⟩) ⟨w.heap.size, .pointer none, ⟨hN, by simp⟩, eq (by decide)⟩
 · have aft : ∀ j ∈ [7, 8], ({ on := j, ground := .phase } : Edge) ∈ (ops2[9]'(by rw [ops2_size]; decide)).after := by
     intro j hj
     rw [show (ops2[9]'(by rw [ops2_size]; decide)).after = #[{ on := 8, ground := .data }, { on := 7, ground := .data }, { on := 0, ground := .phase }, { on := 1, ground := .phase }, { on := 2, ground := .phase }, { on := 3, ground := .phase }, { on := 4, ground := .phase }, { on := 5, ground := .phase }, { on := 6, ground := .phase }, { on := 7, ground := .phase }, { on := 8, ground := .phase }] from rfl]
     simp only [List.mem_cons, List.not_mem_nil, or_false] at hj
     rcases hj with rfl | rfl <;> simp
   have l8 := pick_done hp (o := ops2[9]'(by rw [ops2_size]; decide)) (j := 8) (g := .phase) rfl (aft 8 (by simp)) rfl
   obtain ⟨f, g, h, hg, hh, hff, h25⟩ := hI.facts 7 (by decide) (pick_done hp (o := ops2[9]'(by rw [ops2_size]; decide)) (j := 7) (g := .phase) rfl (aft 7 (by simp)) rfl)
   obtain ⟨x, cv, hx, h8⟩ := hI.facts 8 (by decide) l8
   have hr := run_st1 (w := w) (ρ := evalT T) (o := ops2[9]'(by rw [ops2_size]; decide)) (ty := 65) (x := .tmp 8) (y := .tmp 25) (ad := ⟨x, 0, none⟩) (v := .pointer (some ⟨f, 0, none⟩)) (u := cv) rfl h8 h25 (.inr (.inl rfl)) (.inr (.inr ⟨_, rfl⟩)) (by simp [World.cell?, hx.2]) (by simp [World.frozen?, hx.2])
   have hst := stepG_none (P := Try.prog) (main := true) (b := b) (a := ⟨T, []⟩) (k := k) (cs := cs) (w := w) (i := 9) (rest := is) (ops := ops2) rfl (wantedA (T := T) (ds := []) rfl) hb (by rw [evalA]; exact hr.1)
   rw [putA, show (ops2[9]'(by rw [ops2_size]; decide)).dst = none from rfl, putT_none] at hst
   have hset : ∀ {y : Nat} {o : Obj}, w.heap[y]? = some o → y ≠ x → (w.setCell ⟨x, 0, none⟩ (.pointer (some ⟨f, 0, none⟩))).heap[y]? = some o := fun hy hne => (heap_set w _ _ _ hne).trans hy
   have hxx : (w.setCell ⟨x, 0, none⟩ (.pointer (some ⟨f, 0, none⟩))).heap[x]? = some (.cells #[.pointer (some ⟨f, 0, none⟩)] 65) := (heap_at w _ hx.2).trans rfl
   have ty : ∀ {y : Nat} {cs : Array Value} {t : TypeId} {fr : Nat × Nat}, w.heap[y]? = some (.cells cs t fr) → t ≠ 65 → y ≠ x := fun hy ht e => by
     subst e
     rw [hx.2] at hy
     simp only [Option.some.injEq, Obj.cells.injEq] at hy
     exact ht hy.2.1.symm
   have hxl : x < w.heap.size := (Array.getElem?_eq_some_iff.1 hx.2).1
   refine ⟨T, _, _, hst, ⟨fun e he => ?_, by simp [World.setCell], xb_keep fun y cc hy => ?_⟩, ?_⟩
   · have := mem_listed he
     rw [evalA, hr.2, Array.mem_singleton] at this
     subst this
     refine ⟨⟨fun z hz hs => ?_, by simp, by simp, by simpa [World.setCell, MemAct.ofEvent, MemAct.low, Loc.low] using hxl⟩, fun z hz ad had => ?_, fun ad had => by simp [MemAct.ofEvent] at had⟩
     · simp only [MemAct.ofEvent, MemAct.touch?, Option.some.injEq] at hz
       subst hz
       exact absurd hs (hSh _ hx.1)
     · simp only [MemAct.ofEvent, MemAct.touch?, Option.some.injEq] at hz
       subst hz
       simp only [Loc.cell.injEq] at had
       subst had
       exact .inr ⟨_, hxx⟩
   · by_cases hy' : y = x
     · subst hy'; exact ⟨_, hxx⟩
     · exact ⟨cc, hset hy hy'⟩
   · have hg' : GkOk N n (w.setCell ⟨x, 0, none⟩ (.pointer (some ⟨f, 0, none⟩))) g := ⟨hg.1, hset hg.2 (ty hg.2 (by decide))⟩
     have hh' : HkOk N n (w.setCell ⟨x, 0, none⟩ (.pointer (some ⟨f, 0, none⟩))) h := ⟨hh.1, hset hh.2 (ty hh.2 (by decide))⟩
     have hf' : FkOk N n (w.setCell ⟨x, 0, none⟩ (.pointer (some ⟨f, 0, none⟩))) f g h := ⟨hff.1, hset hff.2 (ty hff.2 (by decide))⟩
     have hil : 9 < l.size := by rw [hI.lsz]; decide
     refine ⟨hI.size, hI.s5, hI.s7, by simp [hI.lsz], fun j hj hjl => ?_, fun _ => ?_, ?_, fun y hy => ?_, hI.os, hI.out, hI.tape⟩
     · rw [getD_set l hil] at hjl
       by_cases e : j = 9
       · subst e
         exact ⟨x, f, g, h, hg', hh', hf', ⟨hx.1, hxx⟩, h8⟩
       · rw [if_neg e] at hjl
         have := hI.facts j hj hjl
         rcases (show j = 0 ∨ j = 1 ∨ j = 2 ∨ j = 3 ∨ j = 4 ∨ j = 5 ∨ j = 6 ∨ j = 7 ∨ j = 8 by omega) with rfl | rfl | rfl | rfl | rfl | rfl | rfl | rfl | rfl
         · exact this
         · exact this
         · obtain ⟨g, q1, q2⟩ := this
           exact ⟨g, ⟨q1.1, hset q1.2 (ty q1.2 (by decide))⟩, q2⟩
         · exact this
         · exact this
         · obtain ⟨g, q1, q2⟩ := this
           exact ⟨g, ⟨q1.1, hset q1.2 (ty q1.2 (by decide))⟩, q2⟩
         · obtain ⟨g, h, q1, q2, q3⟩ := this
           exact ⟨g, h, ⟨q1.1, hset q1.2 (ty q1.2 (by decide))⟩, ⟨q2.1, hset q2.2 (ty q2.2 (by decide))⟩, q3⟩
         · exact ⟨f, g, h, hg', hh', hf', h25⟩
         · exact ⟨x, _, ⟨hx.1, hxx⟩, h8⟩
     · rw [getD_set l hil, if_neg (by decide)]
       exact l8
     · have hc := hI.cnt
       unfold cn at hc ⊢
       simp only [getD_set l hil, Nat.reduceEqDiff, if_false]
       simpa [World.setCell] using hc
     · have hne : y ≠ x := by have := hx.1; omega
       exact (heap_set w _ _ _ hne).trans (hI.old y hy)
end
end Go.Proofs.Ytcoppnbjpncdcaa.Q
end
section
set_option linter.unusedVariables false
set_option linter.unusedSimpArgs false
namespace Go.Proofs.Ytcoppnbjpncdcaa.Q
open Go Go.Conc Go.Proofs.Ytcoppnbjpncdcaa.Sim
open Go.ConcR (mk KK WgAt wgBlock stA smA rd wr)
theorem Reach.opw {P : Program} {main : Bool} {R : World → World → Prop} {D : World → World → Array Event → Prop} {K K' : World → Prop} {Stop : Goroutine → World → Prop} {b : Frame} {cs : List Frame} {ds : List Deferred} (W : Way P R D K) (hb : b.kind ≠ .early) {n : Nat} {T : Array Value} {ops : Array Oper} {j : Nat} {is : List Nat} {k : List Item} {o : Oper} (v : Value) (f : World → World) (ho : ops[j]? = some o) (hwn : Region.wanted o (yieldedT ops T) = true)
   (h1 : ∀ w, K w → (execOp (evalT T) o).run P w = .ok (.value v) (f w) ∧ (execOp (evalT T) o).events P w #[] = #[]) (hD : ∀ w, K w → D w (f w) #[]) (hK : ∀ w, K w → K' (f w))
   (h : Reach P main R D K' Stop b cs ds n (putT T o.dst v) (.inRegion ops is :: k)) : Reach P main R D K Stop b cs ds (n + 1) T (.inRegion ops (j :: is) :: k) := by
 intro w hw
 refine Goes.step rfl fun w₁ h₁' => ?_
 have hw₁ := W.rely w w₁ hw h₁'
 rw [stepG_value (a := ⟨T, ds⟩) ho (wantedA hwn) hb (by rw [evalA]; exact (h1 w₁ hw₁).1), putA]
 have : listed P b.fn (Act.mk T ds) o w₁ = #[] := by unfold listed; rw [evalA, (h1 w₁ hw₁).2]; exact seen_none P _
 rw [this]
 exact ⟨hD w₁ hw₁, h _ (hK w₁ hw₁)⟩
def cfgOf (N n f g h : Nat) : Cfg := { F := f, G := g, H := h, Wg := N + 4, tF := 75, tG := 30, tH := 4, tW := 82, gv := .slice (some ⟨g, 0, none⟩) n n, hv := .slice (some ⟨h, 0, none⟩) n n, n := n }
structure W4 (N n : Nat) (w0 : World) (f g h V : Nat) (w : World) : Prop where
 gk : GkOk N n w g
 hk : HkOk N n w h
 fk : FkOk N n w f g h
 vk : VkOk N w V (.pointer (some ⟨f, 0, none⟩))
 size : w.heap.size = N + 4
 old : ∀ b : Nat, b < N → w.heap[b]? = w0.heap[b]?
 os : w.os = w0.os
 out : w.output = w0.output
 tape : w.tape = w0.tape
structure W5 (N n : Nat) (w0 : World) (f g h V : Nat) (w : World) : Prop where
 gk : GkOk N n w g
 hk : HkOk N n w h
 fk : FkOk N n w f g h
 vk : VkOk N w V (.pointer (some ⟨f, 0, none⟩))
 wg : w.heap[N + 4]? = some (.cells #[.int .u64 0, .int .u32 0] 82)
 size : w.heap.size = N + 5
 old : ∀ b : Nat, b < N → w.heap[b]? = w0.heap[b]?
 os : w.os = w0.os
 out : w.output = w0.output
 tape : w.tape = w0.tape
section
variable {N n : Nat} {w0 w : World} {f g h V : Nat}
theorem W4.at (d : Nat) (H : W4 N n w0 f g h V w) : W4 N n w0 f g h V (w.at d) := ⟨H.gk, H.hk, H.fk, H.vk, H.size, H.old, H.os, H.out, H.tape⟩
theorem W5.at (d : Nat) (H : W5 N n w0 f g h V w) : W5 N n w0 f g h V (w.at d) := ⟨H.gk, H.hk, H.fk, H.vk, H.wg, H.size, H.old, H.os, H.out, H.tape⟩
theorem W4.push (H : W4 N n w0 f g h V w) : W5 N n w0 f g h V { w with heap := w.heap.push (.cells #[.int .u64 0, .int .u32 0] 82) } := by
 have old : ∀ {x : Nat} {o : Obj}, w.heap[x]? = some o → (w.heap.push (.cells #[.int .u64 0, .int .u32 0] 82))[x]? = some o := fun hx => (push_old w _ (Array.getElem?_eq_some_iff.1 hx).1).trans hx
 refine ⟨⟨H.gk.1, old H.gk.2⟩, ⟨H.hk.1, old H.hk.2⟩, ⟨H.fk.1, old H.fk.2⟩, ⟨H.vk.1, old H.vk.2⟩, ?_, by simp [H.size], fun b hb => (push_old w _ (by rw [H.size]; omega)).trans (H.old b hb), H.os, H.out, H.tape⟩
 rw [← H.size]; simp
structure T5 (N n : Nat) (sl p5 : Value) (V : Nat) (T : Array Value) : Prop where
 size : T.size = 63
 s5 : evalT T (.tmp 5) = p5
 s7 : evalT T (.tmp 7) = sl
 s8 : evalT T (.tmp 8) = .pointer (some ⟨V, 0, none⟩)
 s9 : evalT T (.tmp 9) = .pointer (some ⟨N + 4, 0, none⟩)
 s26 : evalT T (.tmp 26) = sl
 s27 : evalT T (.tmp 27) = .int .i64 n
 s28 : evalT T (.tmp 28) = .int .i64 0
end
def StB (N n : Nat) (w0 : World) (sl p5 : Value) (b : Frame) (cs : List Frame) (a : Goroutine) (w : World) : Prop :=
 ∃ T f g h V, T5 N n sl p5 V T ∧ W5 N n w0 f g h V w ∧ a = G (b.at ⟨T, []⟩ (.code lp38 :: tlLoop)) cs
section
variable {N n : Nat} {a : Option Addr} {c : Nat} {T0 : Array Value} {w0 : World} {Sh : Loc → Prop} {b : Frame} {cs : List Frame}
theorem way4 {f g h V : Nat} : Way Try.prog AtRel (DX Sh (XB N)) (W4 N n w0 f g h V) := ⟨fun w w₁ hw ⟨d, e⟩ => e ▸ hw.at d, fun w _ => dx_idle w⟩
theorem way5 {f g h V : Nat} : Way Try.prog AtRel (DX Sh (XB N)) (W5 N n w0 f g h V) := ⟨fun w w₁ hw ⟨d, e⟩ => e ▸ hw.at d, fun w _ => dx_idle w⟩
set_option maxHeartbeats 2000000 in
set_option maxRecDepth 100000 in
theorem r34 {f g h V : Nat} (hb : b.kind ≠ .early) {T : Array Value} (hsz : T.size = 63) (h7 : evalT T (.tmp 7) = .slice a n c) (h8 : evalT T (.tmp 8) = .pointer (some ⟨V, 0, none⟩)) :
   Reach Try.prog true AtRel (DX Sh (XB N)) (W4 N n w0 f g h V) (StB N n w0 (.slice a n c) (evalT T (.tmp 5)) b cs) b cs [] 40 T [.inRegion ops2 [], .code (snd tail38)] := by
 rw [show snd tail38 = .seq (.region 3 ops3 false) (.seq (.seq (.region 4 ops4z false) (.block 0 (.loop lp38))) rest38) from rfl]
 refine Reach.more (n := 37 + 3) (by omega) (Reach.runs (n := 37) way4 hb (offP_ok _) 3 ?_)
 simp only [evRun, evStep, List.range, List.range.loop, ops3_size]
 refine Reach.more (n := 36 + 1) (by omega) (Reach.opw (K' := W5 N n w0 f g h V) way4 hb (o := ops3[0]'(by rw [ops3_size]; decide)) (.pointer (some ⟨N + 4, 0, none⟩)) (fun w => { w with heap := w.heap.push (.cells #[.int .u64 0, .int .u32 0] 82) }) rfl rfl (fun w hw => ?_) (fun w hw => dx_push w _) (fun w hw => hw.push) ?_)
 · have := run_al82 (w := w) (ρ := evalT T) (o := ops3[0]'(by rw [ops3_size]; decide)) rfl
   rw [hw.size] at this
   exact this
 rw [show (ops3[0]'(by rw [ops3_size]; decide)).dst = some 9 from rfl]
 have e9 : ∀ s : Nat, s ≠ 9 → evalT (putT T (some 9) (.pointer (some ⟨N + 4, 0, none⟩))) (.tmp s) = evalT T (.tmp s) := fun s hs => ev_ne hsz (by decide) hs
 have g9 : evalT (putT T (some 9) (.pointer (some ⟨N + 4, 0, none⟩))) (.tmp 9) = .pointer (some ⟨N + 4, 0, none⟩) := ev_eq hsz (by decide)
 have z1 : (putT T (some 9) (.pointer (some ⟨N + 4, 0, none⟩))).size = 63 := by rw [size_putT]; exact hsz
 have k5 := e9 5 (by decide)
 have k7 := (e9 7 (by decide)).trans h7
 have k8 := (e9 8 (by decide)).trans h8
 generalize putT T (some 9) (.pointer (some ⟨N + 4, 0, none⟩)) = T1 at *
 clear hsz
 have hsz := z1
 refine Reach.more (n := 31 + 4) (by omega) (Reach.runs (n := 31) way5 hb (offP_ok _) 4 ?_)
 simp only [evRun, evStep, List.range, List.range.loop, ops4z_size]
 refine Reach.more (n := 30 + 1) (by omega) (Reach.opq way5 hb (o := ops4z[0]'(by rw [ops4z_size]; decide)) (.slice a n c) rfl rfl (fun w hw => run_move (x := .tmp 7) rfl k7) ?_)
 rw [show (ops4z[0]'(by rw [ops4z_size]; decide)).dst = some 26 from rfl]
 have z2 : (putT T1 (some 26) (.slice a n c)).size = 63 := by rw [size_putT]; exact hsz
 have q26 : evalT (putT T1 (some 26) (.slice a n c)) (.tmp 26) = .slice a n c := ev_eq hsz (by decide)
 have q : ∀ s : Nat, s ≠ 26 → evalT (putT T1 (some 26) (.slice a n c)) (.tmp s) = evalT T1 (.tmp s) := fun s hs => ev_ne hsz (by decide) hs
 have m5 := (q 5 (by decide)).trans k5
 have m7 := (q 7 (by decide)).trans k7
 have m8 := (q 8 (by decide)).trans k8
 have m9 := (q 9 (by decide)).trans g9
 generalize putT T1 (some 26) (.slice a n c) = T2 at *
 refine Reach.more (n := 29 + 1) (by omega) (Reach.opq way5 hb (o := ops4z[1]'(by rw [ops4z_size]; decide)) (.int .i64 n) rfl rfl (fun w hw => run_len28 (x := .tmp 26) (ats := #[28]) rfl rfl q26) ?_)
 rw [show (ops4z[1]'(by rw [ops4z_size]; decide)).dst = some 27 from rfl]
 have z3 : (putT T2 (some 27) (.int .i64 n)).size = 63 := by rw [size_putT]; exact z2
 have r27 : evalT (putT T2 (some 27) (.int .i64 n)) (.tmp 27) = .int .i64 n := ev_eq z2 (by decide)
 have r : ∀ s : Nat, s ≠ 27 → evalT (putT T2 (some 27) (.int .i64 n)) (.tmp s) = evalT T2 (.tmp s) := fun s hs => ev_ne z2 (by decide) hs
 have o5 := (r 5 (by decide)).trans m5
 have o7 := (r 7 (by decide)).trans m7
 have o8 := (r 8 (by decide)).trans m8
 have o9 := (r 9 (by decide)).trans m9
 have o26 := (r 26 (by decide)).trans q26
 generalize putT T2 (some 27) (.int .i64 n) = T3 at *
 refine Reach.more (n := 28 + 1) (by omega) (Reach.opq way5 hb (o := ops4z[2]'(by rw [ops4z_size]; decide)) (.int .i64 0) rfl rfl (fun w hw => run_move (x := .const (.int .i64 0)) rfl rfl) ?_)
 rw [show (ops4z[2]'(by rw [ops4z_size]; decide)).dst = some 28 from rfl]
 have z4 : (putT T3 (some 28) (.int .i64 0)).size = 63 := by rw [size_putT]; exact z3
 have s28 : evalT (putT T3 (some 28) (.int .i64 0)) (.tmp 28) = .int .i64 0 := ev_eq z3 (by decide)
 have s : ∀ s : Nat, s ≠ 28 → evalT (putT T3 (some 28) (.int .i64 0)) (.tmp s) = evalT T3 (.tmp s) := fun s hs => ev_ne z3 (by decide) hs
 have f5 : T5 N n (.slice a n c) (evalT T (.tmp 5)) V (putT T3 (some 28) (.int .i64 0)) := ⟨z4, (s 5 (by decide)).trans o5, (s 7 (by decide)).trans o7, (s 8 (by decide)).trans o8, (s 9 (by decide)).trans o9, (s 26 (by decide)).trans o26, (s 27 (by decide)).trans r27, s28⟩
 generalize putT T3 (some 28) (.int .i64 0) = T4 at *
 refine Reach.more (n := 25 + 3) (by omega) (Reach.runs (n := 25) way5 hb (offP_ok _) 3 ?_)
 simp only [evRun, evStep]
 intro w hw
 refine Goes.stop fun w₁ ⟨d, e⟩ => ?_
 subst e
 exact ⟨T4, f, g, h, V, f5, hw.at d, rfl⟩
theorem Fact.at {sl : Value} {w : World} {j : Nat} {T : Array Value} (hj : j < 10) (d : Nat) (h : Fact N n sl j T w) : Fact N n sl j T (w.at d) := by
 rcases (show j = 0 ∨ j = 1 ∨ j = 2 ∨ j = 3 ∨ j = 4 ∨ j = 5 ∨ j = 6 ∨ j = 7 ∨ j = 8 ∨ j = 9 by omega) with rfl | rfl | rfl | rfl | rfl | rfl | rfl | rfl | rfl | rfl <;> exact h
theorem ops2_after : ∀ i : Fin 10, (ops2[i.1]'(by rw [ops2_size]; exact i.2)).after.all (fun e => decide (e.on < i.1)) = true := by
 intro i
 obtain ⟨i, hi⟩ := i
 rcases (show i = 0 ∨ i = 1 ∨ i = 2 ∨ i = 3 ∨ i = 4 ∨ i = 5 ∨ i = 6 ∨ i = 7 ∨ i = 8 ∨ i = 9 by omega) with rfl | rfl | rfl | rfl | rfl | rfl | rfl | rfl | rfl | rfl <;> kernel_rfl
theorem befOk (hb : b.kind ≠ .early) (hn : n ≤ 9) (hN : w0.heap.size = N) (hSh : ∀ x : Addr, N ≤ x.block → ¬ Sh (.cell x)) (hsz : T0.size = 63) (h7 : evalT T0 (.tmp 7) = .slice a n c) :
   Goes Try.prog true AtRel (DX Sh (XB N)) (StB N n w0 (.slice a n c) (evalT T0 (.tmp 5)) b cs) (ops2.size + 40 + 1 + 1) (G (b.at ⟨T0, []⟩ [.code tail38]) cs) w0 := by
 refine Goes.step rfl fun w₁ ⟨d, e⟩ => ?_
 subst e
 rw [show tail38 = .seq (.region 2 ops2 true) (snd tail38) from rfl, stepG_seq]
 refine ⟨dx_idle _, ?_⟩
 refine goes_drawn (Inv := I2 N n (.slice a n c) T0 w0) (fun l T w w₁ hI hr => ?_) (fun l T w hI => ⟨⟨by simp, Nat.le_refl _, fun a h => h⟩, ?_⟩) mixed ?_ (fun l T w i is hp hi hI => r2_step hb hn hSh l T w i is hp hi hI) (fun l T w hl hall hI => ?_) ?_
 · obtain ⟨d, rfl⟩ := hr
   exact ⟨hI.size, hI.s5, hI.s7, hI.lsz, fun j hj hjl => (hI.facts j hj hjl).at hj _, hI.dep, hI.cnt, hI.old, hI.os, hI.out, hI.tape⟩
 · exact ⟨hI.size, hI.s5, hI.s7, hI.lsz, fun j hj hjl => (hI.facts j hj hjl).at hj _, hI.dep, hI.cnt, hI.old, hI.os, hI.out, hI.tape⟩
 · intro i o ho e he _
   have hi : i < 10 := by have := (Array.getElem?_eq_some_iff.1 ho).1; rw [ops2_size] at this; exact this
   obtain ⟨h1, h2⟩ := Array.getElem?_eq_some_iff.1 ho
   have := ops2_after ⟨i, hi⟩
   rw [show ops2[(⟨i, hi⟩ : Fin 10).1]'(by rw [ops2_size]; exact hi) = o from h2, Array.all_eq_true_iff_forall_mem] at this
   simpa using this e he
 · obtain ⟨V, f, g, h, hg, hh, hf, hv, h8⟩ := hI.facts 9 (by decide) (hall 9 (by rw [ops2_size]; decide))
   have hc := hI.cnt
   unfold cn at hc
   rw [hall 2 (by rw [ops2_size]; decide), hall 5 (by rw [ops2_size]; decide), hall 7 (by rw [ops2_size]; decide), hall 8 (by rw [ops2_size]; decide)] at hc
   have := r34 (Sh := Sh) (cs := cs) (w0 := w0) (N := N) (n := n) (a := a) (c := c) (f := f) (g := g) (h := h) hb hI.size hI.s7 h8 w ⟨hg, hh, hf, hv, by simpa using hc, hI.old, hI.os, hI.out, hI.tape⟩
   rw [hI.s5] at this
   exact this
 · rw [ops2_size]
   refine ⟨hsz, rfl, h7, by simp, fun j hj hjl => ?_, fun h9 => ?_, ?_, fun _ _ => rfl, rfl, rfl, rfl⟩
   · rw [Array.getD_eq_getD_getElem?, Array.getElem?_replicate, if_pos hj] at hjl
     cases hjl
   · simp [Array.getD_eq_getD_getElem?] at h9
   · simp [cn, Array.getD_eq_getD_getElem?]
     exact hN
end
end Go.Proofs.Ytcoppnbjpncdcaa.Q
end
section
set_option linter.unusedVariables false
set_option linter.unusedSimpArgs false
namespace Go.Proofs.Ytcoppnbjpncdcaa.Q
open Go Go.Conc Go.Proofs.Ytcoppnbjpncdcaa.Sim
open Go.ConcR (mk KK WgAt wgBlock stA smA rd wr)
open Go.ConcN (sumTo)
section
variable {N n : Nat} {w0 w : World} {f g h V : Nat}
theorem W5.apart (H : W5 N n w0 f g h V w) : (cfgOf N n f g h).Apart := by
 have ne : ∀ {x y : Nat} {c d : Array Value} {s t : TypeId}, w.heap[x]? = some (.cells c s) → w.heap[y]? = some (.cells d t) → s ≠ t → x ≠ y := fun hx hy ht e => by
   subst e
   rw [hx] at hy
   simp only [Option.some.injEq, Obj.cells.injEq] at hy
   exact ht hy.2.1
 exact ⟨ne H.fk.2 H.gk.2 (by decide), ne H.fk.2 H.hk.2 (by decide), ne H.fk.2 H.wg (by decide), ne H.gk.2 H.hk.2 (by decide), ne H.gk.2 H.wg (by decide), ne H.hk.2 H.wg (by decide)⟩
theorem W5.v (H : W5 N n w0 f g h V w) : ¬ isG (cfgOf N n f g h) V := by
 have ne : ∀ {x y : Nat} {c d : Array Value} {s t : TypeId}, w.heap[x]? = some (.cells c s) → w.heap[y]? = some (.cells d t) → s ≠ t → x ≠ y := fun hx hy ht e => by
   subst e
   rw [hx] at hy
   simp only [Option.some.injEq, Obj.cells.injEq] at hy
   exact ht hy.2.1
 rintro (e | e | e | e)
 · exact ne H.vk.2 H.fk.2 (by decide) e
 · exact ne H.vk.2 H.gk.2 (by decide) e
 · exact ne H.vk.2 H.hk.2 (by decide) e
 · exact ne H.vk.2 H.wg (by decide) e
theorem W5.isG_ge (H : W5 N n w0 f g h V w) {b : Nat} (hb : isG (cfgOf N n f g h) b) : N ≤ b := by
 rcases hb with e | e | e | e <;> subst e
 · exact H.fk.1
 · exact H.gk.1
 · exact H.hk.1
 · exact Nat.le_add_right N 4
theorem W5.isG_lt (H : W5 N n w0 f g h V w) {b : Nat} (hb : isG (cfgOf N n f g h) b) : b < w.heap.size := by
 rcases hb with e | e | e | e <;> subst e
 · exact (Array.getElem?_eq_some_iff.1 H.fk.2).1
 · exact (Array.getElem?_eq_some_iff.1 H.gk.2).1
 · exact (Array.getElem?_eq_some_iff.1 H.hk.2).1
 · exact (Array.getElem?_eq_some_iff.1 H.wg).1
theorem W5.xb (H : W5 N n w0 f g h V w) {act : MemAct} (hx : XB N w act) : (∀ x, act.touch? = some x → ¬ Shr (cfgOf N n f g h) x.loc) ∧ act ≠ .mark (.release (stA (N + 4))) := by
 have ne : ∀ {x : Nat} {c d : Array Value} {s : TypeId}, w.heap[x]? = some (.cells c s) → w.heap[x]? = some (.cells d 65) → s ≠ 65 → False := fun hx hy ht => by
   rw [hx] at hy
   simp only [Option.some.injEq, Obj.cells.injEq] at hy
   exact ht hy.2.1
 refine ⟨fun x hxx hs => ?_, fun e => ?_⟩
 · rcases hs with e | e | e | e
   · rcases hx.1 x hxx _ e with q | ⟨c, q⟩
     · exact absurd q (Nat.not_lt.2 H.fk.1)
     · exact ne H.fk.2 q (by decide)
   · rcases hx.1 x hxx _ e with q | ⟨c, q⟩
     · exact absurd q (Nat.not_lt.2 H.fk.1)
     · exact ne H.fk.2 q (by decide)
   · rcases hx.1 x hxx _ e with q | ⟨c, q⟩
     · exact absurd q (Nat.not_lt.2 (Nat.le_add_right N 4))
     · exact ne H.wg q (by decide)
   · rcases hx.1 x hxx _ e with q | ⟨c, q⟩
     · exact absurd q (Nat.not_lt.2 (Nat.le_add_right N 4))
     · exact ne H.wg q (by decide)
 · have := hx.2 _ e
   exact absurd this (Nat.not_lt.2 (Nat.le_add_right N 4))
end
structure Src (J : Nat → Prop) (w : World) (n : Nat) (a : Option Addr) (bl lo : Nat) (xs ys : Nat → Int) (least : Int) : Prop where
 l : w.cell? ⟨bl, lo, none⟩ = some (.int .i64 least)
 jl : ¬ J bl
 v : 0 < n → ∃ V off, a = some ⟨V, off, none⟩ ∧ ¬ J V ∧ ∀ j, j < n → w.cell? ⟨V, off + 2 * j, none⟩ = some (.int .i64 (xs j)) ∧ w.cell? ⟨V, off + 2 * j + 1, none⟩ = some (.int .i64 (ys j))
noncomputable def valsOf (xs ys : Nat → Int) (least : Int) (i : Nat) : Value × Value × Value := (Job.mk 0 0 0 0 (xs i) (ys i) least 0).fin
set_option maxHeartbeats 4000000 in
theorem crowdOk {J : Nat → Prop} {w : World} {N n : Nat} {a : Option Addr} {c bl lo : Nat} {xs ys : Nat → Int} {least : Int} {f g h V : Nat} {w0 : World} {T : Array Value} {cs : List Frame} {gs : Array Goroutine} {sl : Option (Nat × Nat)} {t : Trace} {q : Nat → Nat}
   (hn : n ≤ 9) (hJ : ∀ b, J b → b < N) (hS : Src J w n a bl lo xs ys least) (hbl : bl < N) (hV : ∀ V off, a = some ⟨V, off, none⟩ → 0 < n → V < N) (hT : T5 N n (.slice a n c) (.pointer (some ⟨bl, lo, none⟩)) V T) (hW : W5 N n w0 f g h V w)
   (h0 : gs[0]? = some (G ((base 38).at ⟨T, []⟩ (.code lp38 :: tlLoop)) cs)) (hL : Leavers Try.prog t gs q) (hP : Past (Shun J) w.heap.size t) (hX : ∀ op ∈ t, XB N w op.act) :
   ∃ (L : Plan) (M : Nat) (gs' : Array Goroutine) (w' : World) (sl' : Option (Nat × Nat)) (a' : Goroutine) (q' : Nat → Nat) (t' : Trace), L.bf = V ∧ L.sl = .slice a n c ∧
     runNT Try.prog M (crowd gs w sl) t = (.next (crowd gs' w' sl'), t') ∧ PhEnd (cfgOf N n f g h) Try.prog (valsOf xs ys least) (FinM (cfgOf N n f g h) L (base 38) cs) ⟨J, gs.size - 1, w, t⟩ gs' w' t' a' q' := by
 obtain ⟨V0, off, hVn, hV0, hJ0⟩ : ∃ V0 off, (0 < n → a = some ⟨V0, off, none⟩ ∧ ∀ j, j < n → w.cell? ⟨V0, off + 2 * j, none⟩ = some (.int .i64 (xs j)) ∧ w.cell? ⟨V0, off + 2 * j + 1, none⟩ = some (.int .i64 (ys j))) ∧ V0 < N ∧ ¬ J V0 := by
   by_cases h0 : 0 < n
   · obtain ⟨V0, off, h1, h2, h3⟩ := hS.v h0
     exact ⟨V0, off, fun _ => ⟨h1, h3⟩, hV _ _ h1 h0, h2⟩
   · exact ⟨bl, 0, fun x => absurd x h0, hbl, hS.jl⟩
 let C := cfgOf N n f g h
 let L : Plan := ⟨V0, off, V, bl, xs, ys, least, .slice a n c, lo⟩
 have A : C.Apart := hW.apart
 have hbG : ∀ b, b < N → ¬ isG C b := fun b hb hg => absurd (hW.isG_ge hg) (by omega)
 have hkr : ∀ b, L.kr b → b < w.heap.size ∧ ¬ J b ∧ ¬ isG C b := by
   rintro b (e | e | e) <;> (dsimp only [L] at e; subst e)
   · exact ⟨by rw [hW.size]; omega, hJ0, hbG _ hV0⟩
   · exact ⟨(Array.getElem?_eq_some_iff.1 hW.vk.2).1, fun hj => absurd (hJ _ hj) (by have := hW.vk.1; omega), hW.v⟩
   · exact ⟨by rw [hW.size]; omega, hS.jl, hbG _ hbl⟩
 have hkW : ∀ b, L.kr b → b ≠ C.Wg := fun b hb e => (hkr b hb).2.2 (.inr (.inr (.inr e)))
 have Q : GeoM C L (valsOf xs ys least) := ⟨A, rfl, rfl, ⟨fun e => hW.v (.inl e), fun e => hbG _ hbl (.inl e)⟩, fun j bi br hj => rfl⟩
 have gcell : ∀ i : Nat, i < 2 * n → w.cell? ⟨g, i, none⟩ = some (.int .i64 0) := fun i hi => by simp [World.cell?, hW.gk.2, hi]
 have hcell : ∀ i : Nat, i < n → w.cell? ⟨h, i, none⟩ = some (.bool false) := fun i hi => by simp [World.cell?, hW.hk.2, hi]
 have hmu : MuAt C w ⟨0, 0, 0, 0⟩ 0 := hW.fk.2
 have hwg : WgAt C.tW C.Wg w 0 0 := hW.wg
 have hgg : RowAt C.G C.tG (2 * C.n) w := ⟨_, hW.gk.2, Array.size_replicate ..⟩
 have hhh : RowAt C.H C.tH C.n w := ⟨_, hW.hk.2, Array.size_replicate ..⟩
 have hlive : Live C w := ⟨⟨_, _, hmu⟩, ⟨_, _, hwg⟩, hgg, hhh⟩
 have hKM : KM C L w := ⟨hlive, by simp [World.cell?, L, hW.vk.2, C, cfgOf], hS.l, fun j hj => ((hVn (Nat.lt_of_le_of_lt (Nat.zero_le _) hj)).2 j hj).1, fun j hj => ((hVn (Nat.lt_of_le_of_lt (Nat.zero_le _) hj)).2 j hj).2⟩
 have hMT : MT C L T := ⟨hT.size, hT.s5, hT.s7, hT.s8, hT.s9, hT.s26, hT.s27⟩
 have hsp := spawnOk (cs := cs) (vals := valsOf xs ys least) Q (fun h0 => ⟨c, by show Value.slice a n c = _; rw [(hVn h0).1]; rfl⟩) A hkW (by show n < 1000; omega) (b := base 38) (by simp [base]) hMT (by exact hT.s28) w hKM
 have hgs : 0 < gs.size := (Array.getElem?_eq_some_iff.1 h0).1
 have hO : EnvOk C Try.prog L.kr L.k0 (AnchM C L (base 38) cs) (FinM C L (base 38) cs) ⟨J, gs.size - 1, w, t⟩ :=
   ⟨A, hn, fun b hb => ⟨hW.isG_lt hb, fun hj => absurd (hJ _ hj) (by have := hW.isG_ge hb; omega)⟩, hkr, fun b hb => hkr b (.inr hb), fun b hj => by show b < w.heap.size; rw [hW.size]; have := hJ b hj; omega, anchOk A hkW⟩
 have hcom : ∀ pvt : Nat → Prop, (∀ b, ¬ pvt b) → Com C Try.prog (valsOf xs ys least) ⟨J, gs.size - 1, w, t⟩ gs w #[] 0 (fun _ => ⟨.q, 0, fun _ => False⟩) pvt q ⟨0, 0, 0, 0⟩ 0 0 0 0 := by
   intro pvt hpv
   refine ⟨by show gs.size = gs.size - 1 + 1 + 0; omega, fun k x k1 _ hx => ?_, fun i hi => absurd hi (by omega), fun i hi => absurd hi (by omega), fun i hi => absurd hi (by omega), fun i hi => absurd hi (by omega), fun b hb => absurd hb (hpv b), fun k hk => ?_, hmu, by simpa using hwg, hgg, hhh, fun _ _ _ => rfl, Nat.le_refl _, .refl _, rfl, ?_, ⟨by simp, by simp⟩, fun op hop => ?_, by simp, fun i e => ?_, fun i _ hi => ?_, hP, fun b h1 h2 => absurd h2 (Nat.not_lt.2 h1)⟩
   · rw [Array.append_empty]; exact hL.old k x k1 hx
   · rw [Array.append_empty]; exact hL.above k hk
   · rw [Array.append_empty]
     refine Tr.begin (B := w.heap.size) hP (fun i x hx => ?_) fun k hk => ⟨fun l hl => ?_, fun l hl => ?_⟩
     · obtain ⟨op, hop, hox⟩ := touch_of hx
       exact (hW.xb (hX op (Array.mem_of_getElem? hop))).1 x hox
     · obtain ⟨i, _, e, _⟩ := hl
       dsimp only at hk e
       omega
     · obtain ⟨i, _, e, _⟩ := hl
       dsimp only at hk e
       omega
   · rw [Array.append_empty] at hop
     exact hP.seen op hop
   · unfold Trace.act? at e
     obtain ⟨op, hop, hoa⟩ := Option.map_eq_some_iff.1 e
     exact (hW.xb (hX op (Array.mem_of_getElem? hop))).2 hoa
   · exact ⟨gcell (2 * i) (by have : i < n := hi; omega), gcell (2 * i + 1) (by have : i < n := hi; omega), hcell i hi⟩
 have hA : AInv 0 (fun i => ((fun _ => (⟨.q, 0, fun _ => False⟩ : WD)) i).p.th) ⟨0, 0, 0, 0⟩ 0 := ⟨⟨by decide, by decide, by decide⟩, fun i hi => absurd hi (by omega), rfl, fun _ => ⟨rfl, rfl, rfl⟩, fun e => absurd e (by decide), fun _ _ _ e => absurd rfl e⟩
 have hd0 : Deaf (t ++ #[]) 0 = 0 := by rw [Array.append_empty]; exact hP.hears
 have go : ∀ tag : Mp, tag = .kd ∨ (∃ r, tag = .a1 r) → MS C Try.prog (valsOf xs ys least) L.kr L.k0 (AnchM C L (base 38) cs) (FinM C L (base 38) cs) tag 0 60 0 (G ((base 38).at ⟨T, []⟩ (.code lp38 :: tlLoop)) cs) w →
     ∃ μ, Invs C Try.prog (valsOf xs ys least) L.kr L.k0 (AnchM C L (base 38) cs) (FinM C L (base 38) cs) ⟨J, gs.size - 1, w, t⟩ μ (crowd gs w sl) t := by
   intro tag htag hms
   refine ⟨_, gs, w, sl, #[], 0, _, tag, 60, q, _, 0, 0, 0, 0, _, hO, rfl, by simp, h0, by rw [hd0]; exact hms, hcom _ ?_, hA, ?_, fun i hi => absurd hi (by omega), ?_, rfl⟩
   · rcases htag with rfl | ⟨r, rfl⟩ <;> exact fun b hb => hb
   · rcases htag with rfl | ⟨r, rfl⟩ <;> exact ⟨fun _ => ⟨rfl, rfl, rfl, rfl, rfl⟩, fun x => x.elim, fun x => x.elim, fun vs e => (by cases e), fun e => (by cases e)⟩
   · rcases htag with rfl | ⟨r, rfl⟩ <;> rfl
 have key : ∃ μ, Invs C Try.prog (valsOf xs ys least) L.kr L.k0 (AnchM C L (base 38) cs) (FinM C L (base 38) cs) ⟨J, gs.size - 1, w, t⟩ μ (crowd gs w sl) t := by
   cases n with
   | zero => exact go .kd (.inl rfl) ⟨rfl, rfl, hsp⟩
   | succ r =>
     refine go (.a1 r) (.inr ⟨r, rfl⟩) ⟨by show 0 + (r + 1) = r + 1; omega, rfl, ?_⟩
     have : stopOf C (valsOf xs ys least) L (base 38) cs (r + 1) = MA1 C Try.prog (valsOf xs ys least) L.kr L.k0 0 (MSpawn C Try.prog (valsOf xs ys least) L.kr L.k0 (MFin C Try.prog L.kr (AnchM C L (base 38) cs)) r) := by
       show MA1 _ _ _ _ _ (r + 1 - (r + 1)) _ = _
       rw [Nat.sub_self]
     show GM C Try.prog L.kr none0 (MA1 C Try.prog (valsOf xs ys least) L.kr L.k0 0 (MSpawn C Try.prog (valsOf xs ys least) L.kr L.k0 (MFin C Try.prog L.kr (AnchM C L (base 38) cs)) r)) 60 _ w
     rw [← this]
     exact hsp
 obtain ⟨μ, hI⟩ := key
 obtain ⟨M, gs', w', sl', a', q', t', hr, hE⟩ := phase_runs hI
 exact ⟨L, M, gs', w', sl', a', q', t', rfl, rfl, hr, hE⟩
end Go.Proofs.Ytcoppnbjpncdcaa.Q
end
section
set_option linter.unusedVariables false
set_option linter.unusedSimpArgs false
namespace Go.Proofs.Ytcoppnbjpncdcaa.Q
open Go Go.Conc Go.Proofs.Ytcoppnbjpncdcaa.Sim
open Go.ConcR (mk KK WgAt wgBlock stA smA rd wr)
def EqD (w₀ w : World) : Prop := ∃ d, w = w₀.at d
def XT : World → MemAct → Prop := fun _ _ => True
theorem xt_tx : TX XT := ⟨fun _ _ _ _ => trivial, fun _ _ _ => trivial⟩
theorem wayE {Sh : Loc → Prop} {w₀ : World} : Way Try.prog AtRel (DX Sh XT) (EqD w₀) := ⟨fun w w₁ ⟨d, e⟩ ⟨d', e'⟩ => ⟨d', by subst e; subst e'; rfl⟩, fun w _ => dx_idle w⟩
section
variable {Sh : Loc → Prop} {w₀ : World} {b : Frame} {cs : List Frame} {Stop : Goroutine → World → Prop} {T38 : Array Value}
abbrev RE (Sh : Loc → Prop) (w₀ : World) (Stop : Goroutine → World → Prop) (b : Frame) (cs : List Frame) (n : Nat) (T : Array Value) (k : List Item) : Prop := Reach Try.prog true AtRel (DX Sh XT) (EqD w₀) Stop b cs [] n T k
set_option maxHeartbeats 4000000 in
set_option maxRecDepth 100000 in
theorem outA {C : Cfg} {T : Array Value} (hsz : T.size = 84) (h2 : evalT T (.tmp 2) = .int .u64 0) (h4 : evalT T (.tmp 4) = .int .u32 0) {n : Nat} (h : RE Sh w₀ Stop b cs n (putT T38 (some 36) (.tuple #[])) (.inRegion ops10 [] :: tl38)) :
   RE Sh w₀ Stop (base 56) (below b cs T38) (n + 60) T kA := by
 have W := wayE (Sh := Sh) (w₀ := w₀)
 have q0 : bits .and .u64 0 2147483648 = 0 := by kernel_rfl
 simp only [kA, tl56, z56, x56, y56, in56, lp56, body56, Try.f56, Option.getD_some, snd, fst, inLp, inBl, opsOf, thn]
 refine Reach.more (n := (n + 10) + 50) (by omega) (Reach.runs (n := n + 10) W (by simp [base]) (offP_ok _) 50 ?_)
 simp only [evRun, evStep, zqa, Nat.reduceAdd, Nat.zero_add, List.range, List.range.loop, zqb, Region.wanted, ↓reduceIte, evPure, evalT_put, evalT_const, size_putT, hsz, Nat.reduceLT, Nat.reduceEqDiff, Option.bind_some, reduceCtorEq, intBin, yieldedT, beq_self_eq_true, some_ft, Bool.false_eq_true, h2, h4, q0, bne_self_eq_false]
 refine Reach.more (n := n + 2) (by omega) (Reach.leave0 W rfl Try.func56 (by kernel_rfl) ?_ (.inr ⟨_, rfl⟩))
 rw [show ((ops10[0]?).bind (·.dst)) = some 36 from rfl]
 exact h
set_option maxHeartbeats 4000000 in
set_option maxRecDepth 100000 in
theorem outB {C : Cfg} {T : Array Value} (hsz : T.size = 84) (h6 : evalT T (.tmp 6) = .bool false) {n : Nat} (h : RE Sh w₀ Stop b cs n (putT T38 (some 36) (.tuple #[])) (.inRegion ops10 [] :: tl38)) :
   RE Sh w₀ Stop (base 56) (below b cs T38) (n + 60) T kB := by
 have W := wayE (Sh := Sh) (w₀ := w₀)
 simp only [kB, h19, h56, tl56, y56, in56, lp56, body56, Try.f56, Option.getD_some, snd, fst, inLp, inBl, opsOf, thn]
 refine Reach.more (n := (n + 10) + 50) (by omega) (Reach.runs (n := n + 10) W (by simp [base]) (offP_ok _) 50 ?_)
 simp only [evRun, evStep, zqa, Nat.zero_add, List.range, List.range.loop, List.getElem?_toArray, List.getElem?_cons_zero, Region.wanted, ↓reduceIte, evPure, evalT_put, hsz, Nat.reduceLT, h6]
 refine Reach.more (n := n + 2) (by omega) (Reach.leave0 W rfl Try.func56 (by kernel_rfl) ?_ (.inr ⟨_, rfl⟩))
 rw [show ((ops10[0]?).bind (·.dst)) = some 36 from rfl]
 exact h
end
end Go.Proofs.Ytcoppnbjpncdcaa.Q
end
section
namespace Go.Proofs.Tp
open Go Go.Proofs Go.Proofs.Ytcoppnbjpncdcaa Go.Proofs.Ytcoppnbjpncdcaa.Sim
def op (d : Nat) (o : Op) : Oper := { dst := some d, op := o, type := 0, pos := "", after := #[], guard := none }
def i0 : Operand := .const (.int .i64 0)
def i1 : Operand := .const (.int .i64 1)
def hk : Oper := op 19 (.range 9 (.const (.string ⟨#[]⟩)))
def lenOp (d t : Nat) : Oper := op d (.call { callee := .builtin .len, args := #[.tmp t], argTypes := #[28] })
def opsA : Array Oper := #[op 15 (.load 3 (.tmp 5)), op 16 (.binOp .lss 3 (.tmp 15) i0 3), lenOp 17 7, op 18 (.binOp .leq 3 (.tmp 17) (.const (.int .i64 9)) 3)]
def opsB : Array Oper := #[hk, hk, hk, hk, hk, op 20 (.move i0)]
def opsT : Array Oper := #[op 21 (.binOp .lss 3 (.tmp 20) (.tmp 17) 3)]
def opsC : Array Oper := #[op 22 (.indexAddr 28 (.tmp 7) (.tmp 20)), op 23 (.fieldAddr 30 (.tmp 22) 0), op 24 (.load 3 (.tmp 23)), op 25 (.fieldAddr 30 (.tmp 22) 1), op 26 (.load 3 (.tmp 25)),
 op 27 (.binOp .lss 3 (.tmp 24) i0 3), op 27 (.binOp .lss 3 (.tmp 26) i0 3), hk, hk, hk, op 20 (.binOp .add 3 (.tmp 20) i1 3)]
def lpA : Code := .seq (.region 102 opsT false) (.seq (.cond (.tmp 21) .skip (.exit 0)) (.region 103 opsC false))
def opsD : Array Oper := #[op 37 (.move (.tmp 7)), lenOp 38 37, op 39 (.makeSlice 28 i0 (.tmp 38)), op 12 (.assign (.tmp 39)), op 20 (.move i0)]
def opsE : Array Oper := #[hk, op 22 (.indexAddr 28 (.tmp 7) (.tmp 20)), op 23 (.fieldAddr 30 (.tmp 22) 0), op 24 (.load 3 (.tmp 23)), op 25 (.fieldAddr 30 (.tmp 22) 1), op 26 (.load 3 (.tmp 25)),
 op 27 (.binOp .sub 3 (.tmp 26) (.tmp 24) 3), op 28 (.binOp .geq 3 (.tmp 27) (.tmp 15) 3)]
def opsF : Array Oper := #[op 57 (.move (.tmp 12)), op 58 (.load 30 (.tmp 22)), op 59 (.buildSlice 28 1 #[(0, .tmp 58)]), op 60 (.call { callee := .builtin .append, args := #[.tmp 57, .tmp 59], argTypes := #[28, 28] }), op 12 (.assign (.tmp 60))]
def opsG : Array Oper := #[op 20 (.binOp .add 3 (.tmp 20) i1 3)]
def lpB : Code := .seq (.region 105 opsT false) (.seq (.cond (.tmp 21) .skip (.exit 2)) (.seq (.region 106 opsE false) (.seq (.cond (.tmp 28) (.region 16 opsF false) .skip) (.region 107 opsG false))))
def opsH : Array Oper := #[op 62 (.move (.tmp 12)), op 6 (.assign (.tmp 62))]
def t6 : Code := .seq (.region 18 opsH false) .ret
def t5 : Code := .seq (.block 2 (.loop lpB)) t6
def t4 : Code := .seq (.region 104 opsD false) t5
def t3 : Code := .seq (.block 0 (.loop lpA)) t4
def t2 : Code := .seq (.region 101 opsB false) t3
def t1 : Code := .seq (.cond (.tmp 18) .skip (.refuse "more than nine")) t2
def tail : Code := .seq (.region 100 opsA false) t1
def fstC : Code → Code | .seq x _ => x | c => c
def sndC : Code → Code | .seq _ y => y | c => c
noncomputable def bodyP : Code := Try.f38.body.getD .skip
noncomputable def body : Code := .seq (fstC bodyP) (.seq (fstC (sndC bodyP)) tail)
noncomputable def f38 : Func := { name := "sequential", origin := "", params := #[28, 30, 3], resultTypes := #[28], nfree := 0, ntmps := 63, results := #[.tmp 6], body := some body, norace := false, tmpNames := #[] }
def keep : List Nat := [3, 4, 5, 6, 7, 10, 11, 12, 14, 15, 16, 17, 18, 19, 20, 21, 22, 23, 24, 25, 26, 27, 28, 29, 30, 31, 32, 34, 35, 37, 39, 40, 41, 42, 43, 44, 45, 48, 51, 57, 58, 59, 60, 67, 88, 89, 90, 93, 101, 102]
noncomputable def pick (k : Nat) : Func := if k = 38 then f38 else if keep.contains k then Try.funcs.getD k Sim.blank else Sim.blank
noncomputable def funcs : Array Func := ((List.range 132).map pick).toArray
noncomputable def prog : Program := { toTables := Try.progTables, funcs := funcs }
noncomputable def hole : Hole := ⟨38, tail, sndC (sndC bodyP)⟩
theorem funcs_get (f : Nat) (g : Func) (h : prog.funcs[f]? = some g) : f < 132 ∧ g = pick f := by
 have e : prog.funcs[f]? = ((List.range 132).map pick)[f]? := by show funcs[f]? = _; unfold funcs; simp
 rw [e, List.getElem?_map] at h
 obtain ⟨k, hk, rfl⟩ := Option.map_eq_some_iff.1 h
 obtain ⟨h1, h2⟩ := List.getElem?_eq_some_iff.1 hk
 rw [List.length_range] at h1
 rw [List.getElem_range] at h2
 exact ⟨h1, h2 ▸ rfl⟩
noncomputable def okFn (k : Nat) : Bool := k < 132 && (match (Try.funcs.getD k Sim.blank).body with | some b => okCode prog b && !((Try.funcs.getD k Sim.blank).name == "runtime.NumGoroutine") | none => false)
theorem all_ok : keep.all okFn = true := by kernel_rfl
theorem tail_ok : okCode prog tail = true ∧ okCode prog (fstC bodyP) = true ∧ okCode prog (fstC (sndC bodyP)) = true := by
 refine ⟨?_, ?_, ?_⟩ <;> kernel_rfl
theorem szP : Try.prog.funcs.size = 132 := by kernel_rfl
theorem kept {k : Nat} (h : k ∈ keep) : ∃ b, k < 132 ∧ Try.prog.funcs[k]? = some (Try.funcs.getD k Sim.blank) ∧ (Try.funcs.getD k Sim.blank).body = some b ∧ okCode prog b = true ∧ ((Try.funcs.getD k Sim.blank).name == "runtime.NumGoroutine") = false := by
 have := List.all_eq_true.1 all_ok k h
 unfold okFn at this
 simp only [Bool.and_eq_true, decide_eq_true_eq] at this
 obtain ⟨h1, h2⟩ := this
 cases hb : (Try.funcs.getD k Sim.blank).body with
 | none => rw [hb] at h2; cases h2
 | some b =>
   rw [hb] at h2
   simp only [Bool.and_eq_true, Bool.not_eq_true'] at h2
   refine ⟨b, h1, ?_, rfl, h2.1, h2.2⟩
   have hlt : k < Try.funcs.size := by have := szP; show k < Try.prog.funcs.size; omega
   show Try.funcs[k]? = _
   simp [Array.getD, hlt]
set_option maxRecDepth 10000 in
theorem twins : Twins Try.prog prog hole := by
 have hbody : Try.f38.body = some (.seq (fstC bodyP) (.seq (fstC (sndC bodyP)) (sndC (sndC bodyP)))) := by kernel_rfl
 have e1 : ∀ k g, prog.funcs[k]? = some g → g = Sim.blank ∨ (k = 38 ∧ g = f38) ∨ (k ≠ 38 ∧ k ∈ keep ∧ g = Try.funcs.getD k Sim.blank) := by
   intro k g h
   obtain ⟨_, rfl⟩ := funcs_get k g h
   unfold pick
   by_cases h38 : k = 38
   · rw [if_pos h38]; exact .inr (.inl ⟨h38, rfl⟩)
   · rw [if_neg h38]
     by_cases hk : keep.contains k = true
     · rw [if_pos hk]; exact .inr (.inr ⟨h38, by simpa using hk, rfl⟩)
     · rw [if_neg hk]; exact .inl rfl
 refine ⟨⟨rfl, Try.globals_size, fun k g h => ?_⟩, ?_, fun k g h => ?_⟩
 · rcases e1 k g h with rfl | ⟨rfl, rfl⟩ | ⟨_, hk, rfl⟩
   · exact .inl rfl
   · exact .inr ⟨rfl, (by kernel_rfl), Try.f38, Try.func38, (by rw [hbody]; rfl), (by kernel_rfl)⟩
   · obtain ⟨b, _, h2, h3, _, h5⟩ := kept hk
     exact .inr ⟨by rw [h3]; rfl, h5, _, h2, by rw [h3]; rfl, h5⟩
 · rw [szP]; show funcs.size = 132; unfold funcs; simp
 · rcases e1 k g h with rfl | ⟨rfl, rfl⟩ | ⟨_, hk, rfl⟩
   · exact .inl rfl
   · exact .inr ⟨Try.f38, body, _, Try.func38, by kernel_rfl, by kernel_rfl, rfl, hbody, .inr (.seq tail_ok.2.1 (.seq tail_ok.2.2 (.hole rfl)))⟩
   · obtain ⟨b, _, h2, h3, h4, h5⟩ := kept hk
     exact .inr ⟨_, b, b, h2, rfl, rfl, h3, h3, .inl ⟨rfl, h4⟩⟩
end Go.Proofs.Tp
end
section
set_option linter.unusedVariables false
set_option linter.unusedSimpArgs false
namespace Go.Proofs.Ytcoppnbjpncdcaa.Q
open Go Go.Conc Go.Proofs.Ytcoppnbjpncdcaa.Sim
section
variable {P : Program} {main : Bool} {b : Frame} {cs : List Frame} {ds : List Deferred}
theorem evStep_go (hb : b.kind ≠ .early) {off : TypeId → Nat → Option Nat} (hoff : OffOk P off) {T T' : Array Value} {k k' : List Item} (he : evStep off T k = some (T', k')) (w : World) :
   stepG P main (G (b.at ⟨T, ds⟩ k) cs) w = .go (G (b.at ⟨T', ds⟩ k') cs) w := by
 unfold evStep at he
 split at he
 · cases he; exact stepG_seq
 · cases he; exact stepG_skip
 · cases he; exact stepG_inBlock
 · cases he; exact stepG_block
 · cases he; exact stepG_loop
 · split at he
   · rename_i hx; cases he; exact stepG_exit hx
   · cases he
 · split at he
   · rename_i c x y k hx; cases he; exact stepG_cond (a := ⟨T, ds⟩) (t := true) (by rw [evalA]; exact hx)
   · rename_i c x y k hx; cases he; exact stepG_cond (a := ⟨T, ds⟩) (t := false) (by rw [evalA]; exact hx)
   · cases he
 · cases he; exact stepG_region
 · cases he; exact stepG_region_end
 · rename_i ops i is k
   split at he
   · cases he
   · rename_i o ho
     split at he
     · rename_i hw
       split at he
       · rename_i v hv
         cases he
         have hs := evPure_sound (P := P) hoff hv w #[]
         have hp := Sem.runT_eq P (execOp (evalT T) o) w #[]
         rw [hs] at hp
         rw [stepG_value (a := ⟨T, ds⟩) ho (wantedA hw) hb (by rw [evalA]; exact (congrArg Prod.fst hp).symm), putA]
         have : listed P b.fn (Act.mk T ds) o w = #[] := by unfold listed; have e2 : (execOp (evalT T) o).events P w #[] = #[] := (congrArg Prod.snd hp).symm; rw [evalA, e2]; exact seen_none P _
         rw [this]
       · cases he
     · rename_i hw
       cases he
       rw [← putA T ds]
       exact stepG_unwanted ho (by
         have e : yielded ops (Act.mk T ds).tmps = yieldedT ops T := funext (yielded_eq ops T)
         rw [e]; simpa using hw)
 · cases he
end
section
variable {S : Program} {Post : Value → World → Prop} {l : List Frame}
def SF (T : Array Value) (k : List Item) : Frame := (base 38).at ⟨T, []⟩ k
structure On (S : Program) (Post : Value → World → Prop) (l : List Frame) (x₀ : Frame × List Frame × World) (T : Array Value) (k : List Item) (v : World) : Prop where
 runs : Runs S Post (SF T k) l v
 path : x₀ = (SF T k, l, v) ∨ Path S x₀ (SF T k, l, v)
theorem path_snoc {x y z : Frame × List Frame × World} (h : Path S x y) (k : Sim.Next S y z) : Path S x z := by
 induction h with
 | one h => exact .cons h (.one k)
 | cons h _ ih => exact .cons h (ih k)
variable {x₀ : Frame × List Frame × World} {T T' : Array Value} {k k' : List Item} {v v' : World}
theorem SF_ne : ¬ ((SF T k).mode = .returning ∧ l = []) := fun h => by cases h.1
theorem On.step (h : On S Post l x₀ T k v) {es : Array Event} (hs : stepG S true (G (SF T k) (l ++ [noWay S])) v = .go (G (SF T' k') (l ++ [noWay S])) v' es) : On S Post l x₀ T' k' v' := by
 have hn : Sim.Next S (SF T k, l, v) (SF T' k', l, v') := ⟨SF_ne, v.tape, es, hs⟩
 refine ⟨?_, .inr ?_⟩
 · cases h.runs with
   | done h => have := (h v.tape).1; cases this
   | step hne _ h => exact h v.tape _ _ _ _ hs
 · rcases h.path with rfl | hp
   · exact .one hn
   · exact path_snoc hp hn
theorem On.run {off : TypeId → Nat → Option Nat} (hoff : OffOk S off) : ∀ (f : Nat) {T : Array Value} {k : List Item}, On S Post l x₀ T k v → On S Post l x₀ (evRun off f T k).1 (evRun off f T k).2 v
 | 0, _, _, h => h
 | f + 1, T, k, h => by
   simp only [evRun]
   cases hs : evStep off T k with
   | none => exact h
   | some x => exact On.run hoff f (h.step (evStep_go (by simp [base]) hoff (T' := x.1) (k' := x.2) hs v))
theorem On.inLoop {c : Code} (h : On S Post l x₀ T (.inLoop c :: k) v) : On S Post l x₀ T (.code c :: .inLoop c :: k) v := h.step stepG_inLoop
theorem On.oper {P : Program} {K : Hole} (W : Twins P S K) (hsw : SW v) {ops : Array Oper} {i : Nat} {is : List Nat} {o : Oper} (h : On S Post l x₀ T (.inRegion ops (i :: is) :: k) v) (ho : ops[i]? = some o) (hok : opOk S o = true) (hw : Region.wanted o (yieldedT ops T) = true) :
   ∃ a v₁ es, (execOp (evalT T) o).runT S v #[] = (.ok a v₁, es) ∧ (∀ x, a = .value x → On S Post l x₀ (putT T o.dst x) (.inRegion ops is :: k) v₁) ∧ SW v₁ := by
 have hF := Fol1.execOp (P := P) W.tab W.toTwin (evalT T) o hok (fun _ => rfl) (fun _ => rfl)
 have hgo : ∃ fr1 l1 v1 es, stepG S true (G (SF T (.inRegion ops (i :: is) :: k)) (l ++ [noWay S])) v = .go (gor fr1 (l1 ++ [noWay S])) v1 es ∧ (fr1.mode = .run ∨ fr1.mode = .returning) := by
   cases h.runs with
   | done h => have := (h v.tape).1; cases this
   | step hne hg _ => exact hg v.tape
 have hst : stepG S true (G (SF T (.inRegion ops (i :: is) :: k)) (l ++ [noWay S])) v = stepG.apply S true (SF T (.inRegion ops (i :: is) :: k)) (l ++ [noWay S]) none (execOp (evalT T) o) v := by
   have := stepG_oper (P := S) (main := true) (b := base 38) (a := ⟨T, []⟩) (cs := l ++ [noWay S]) (w := v) (k := k) (rest := is) ho (wantedA hw)
   rw [evalA] at this
   exact this
 cases hr : (execOp (evalT T) o).runT S v #[] with
 | mk r es =>
 cases r with
 | halt x v1 =>
   obtain ⟨fr1, l1, v2, es2, h1, h2⟩ := hgo
   rw [hst] at h1
   rcases apply_halt (fr := SF T (.inRegion ops (i :: is) :: k)) rfl rfl (cs := l ++ [noWay S]) (hF.fol.calm v #[] x v1 es hsw hr) hr with ⟨o', es', h'⟩ | ⟨ch, es', h'⟩
   · rw [h'] at h1; cases h1
   · rw [h'] at h1
     simp only [gor, GStep.go.injEq, Goroutine.mk.injEq] at h1
     rw [← h1.1.1] at h2
     rcases h2 with x | x <;> cases x
 | ok a v1 =>
   refine ⟨a, v1, es, rfl, fun x hx => ?_, (hF.fol.mono v #[] a v1 es hsw hr).2.1⟩
   subst hx
   refine h.step (es := seen S 38 es) (hst.trans ((apply_value rfl hr).trans ?_))
   have : (SF T (.inRegion ops (i :: is) :: k)).finish x = SF (putT T o.dst x) (.inRegion ops is :: k) := by
     show ((base 38).at ⟨T, []⟩ (.inRegion ops (i :: is) :: k)).finish x = _
     rw [Frame.finish_at, ho]
     show (base 38).at (Act.put ⟨T, []⟩ o.dst x) _ = _
     rw [putA]; rfl
   rw [this]
   rfl
theorem On.refuse {why : String} (h : On S Post l x₀ T (.code (.refuse why) :: k) v) : False := by
 cases h.runs with
 | done h => have := (h v.tape).1; cases this
 | step hne hg _ =>
   obtain ⟨fr1, l1, v2, es2, h1, h2⟩ := hg v.tape
   have e : stepG S true (gor (SF T (.code (.refuse why) :: k)) (l ++ [noWay S])) (v.re v.tape) = .ended _ _ _ := rfl
   rw [e] at h1
   cases h1
end
end Go.Proofs.Ytcoppnbjpncdcaa.Q
end
section
namespace Go.Proofs.Tp
open Go
@[simp] theorem sizeOf3 : ∀ (w : World), Sem.run prog (sizeOf 3) w = Result.ok 1 w := fun w => by kernel_rfl
@[simp] theorem isAgg3 : ∀ (w : World), Sem.run prog (isAgg 3) w = Result.ok false w := fun w => by kernel_rfl
@[simp] theorem underlying4 : prog.underlying 4 = some TypeDesc.bool := by kernel_rfl
@[simp] theorem runUnderlying9 : ∀ (w : World), Sem.run prog (underlying 9) w = Result.ok TypeDesc.string w := fun w => by kernel_rfl
@[simp] theorem underlying22 : prog.underlying 22 = some (TypeDesc.slice 24) := by kernel_rfl
@[simp] theorem sizeOf24 : ∀ (w : World), Sem.run prog (sizeOf 24) w = Result.ok 2 w := fun w => by kernel_rfl
@[simp] theorem underlying24 : prog.underlying 24 = some (TypeDesc.struct #[{ name := "From", type := 3, offset := 0, embedded := false, tag := "", pkgPath := "", byteOffset := 0 }, { name := "To", type := 3, offset := 1, embedded := false, tag := "", pkgPath := "", byteOffset := 8 }]) := by kernel_rfl
@[simp] theorem runUnderlying24 : ∀ (w : World), Sem.run prog (underlying 24) w = Result.ok (TypeDesc.struct #[{ name := "From", type := 3, offset := 0, embedded := false, tag := "", pkgPath := "", byteOffset := 0 }, { name := "To", type := 3, offset := 1, embedded := false, tag := "", pkgPath := "", byteOffset := 8 }]) w := fun w => by kernel_rfl
@[simp] theorem isAgg24 : ∀ (w : World), Sem.run prog (isAgg 24) w = Result.ok true w := fun w => by kernel_rfl
@[simp] theorem underlying28 : prog.underlying 28 = some (TypeDesc.slice 30) := by kernel_rfl
@[simp] theorem runUnderlying28 : ∀ (w : World), Sem.run prog (underlying 28) w = Result.ok (TypeDesc.slice 30) w := fun w => by kernel_rfl
@[simp] theorem typeInfo30 : ∀ (w : World), Sem.run prog (typeInfo 30) w = Result.ok Try.t30 w := fun w => by kernel_rfl
@[simp] theorem sizeOf30 : ∀ (w : World), Sem.run prog (sizeOf 30) w = Result.ok 2 w := fun w => by kernel_rfl
@[simp] theorem underlying30 : prog.underlying 30 = some (TypeDesc.struct #[{ name := "From", type := 3, offset := 0, embedded := false, tag := "", pkgPath := "", byteOffset := 0 }, { name := "To", type := 3, offset := 1, embedded := false, tag := "", pkgPath := "", byteOffset := 8 }]) := by kernel_rfl
@[simp] theorem runUnderlying30 : ∀ (w : World), Sem.run prog (underlying 30) w = Result.ok (TypeDesc.struct #[{ name := "From", type := 3, offset := 0, embedded := false, tag := "", pkgPath := "", byteOffset := 0 }, { name := "To", type := 3, offset := 1, embedded := false, tag := "", pkgPath := "", byteOffset := 8 }]) w := fun w => by kernel_rfl
@[simp] theorem isAgg30 : ∀ (w : World), Sem.run prog (isAgg 30) w = Result.ok true w := fun w => by kernel_rfl
@[simp] theorem zeroValue30 : ∀ (w : World), Sem.run prog (zeroValue 30) w = Result.ok (Value.agg #[Value.int IntKind.i64 0, Value.int IntKind.i64 0]) w := fun w => by kernel_rfl
@[simp] theorem func3 : prog.funcs[3]? = some Try.f3 := by kernel_rfl
@[simp] theorem func14 : prog.funcs[14]? = some Try.f14 := by kernel_rfl
@[simp] theorem func15 : prog.funcs[15]? = some Try.f15 := by kernel_rfl
@[simp] theorem func16 : prog.funcs[16]? = some Try.f16 := by kernel_rfl
@[simp] theorem func17 : prog.funcs[17]? = some Try.f17 := by kernel_rfl
@[simp] theorem func18 : prog.funcs[18]? = some Try.f18 := by kernel_rfl
@[simp] theorem func19 : prog.funcs[19]? = some Try.f19 := by kernel_rfl
@[simp] theorem func20 : prog.funcs[20]? = some Try.f20 := by kernel_rfl
@[simp] theorem func31 : prog.funcs[31]? = some Try.f31 := by kernel_rfl
@[simp] theorem func37 : prog.funcs[37]? = some Try.f37 := by kernel_rfl
@[simp] theorem func39 : prog.funcs[39]? = some Try.f39 := by kernel_rfl
@[simp] theorem func40 : prog.funcs[40]? = some Try.f40 := by kernel_rfl
@[simp] theorem call40 : ∀ (args : Array Value) (w : World), (callFunc 40 args).run prog w = .ok (.enter 40 args) w := fun args w => by kernel_rfl
@[simp] theorem func41 : prog.funcs[41]? = some Try.f41 := by kernel_rfl
@[simp] theorem call41 : ∀ (args : Array Value) (w : World), (callFunc 41 args).run prog w = .ok (.enter 41 args) w := fun args w => by kernel_rfl
@[simp] theorem func44 : prog.funcs[44]? = some Try.f44 := by kernel_rfl
@[simp] theorem func45 : prog.funcs[45]? = some Try.f45 := by kernel_rfl
@[simp] theorem func48 : prog.funcs[48]? = some Try.f48 := by kernel_rfl
@[simp] theorem func51 : prog.funcs[51]? = some Try.f51 := by kernel_rfl
@[simp] theorem call51 : ∀ (args : Array Value) (w : World), (callFunc 51 args).run prog w = .ok (.enter 51 args) w := fun args w => by kernel_rfl
@[simp] theorem func57 : prog.funcs[57]? = some Try.f57 := by kernel_rfl
@[simp] theorem call57 : ∀ (args : Array Value) (w : World), (callFunc 57 args).run prog w = .ok (.enter 57 args) w := fun args w => by kernel_rfl
@[simp] theorem func67 : prog.funcs[67]? = some Try.f67 := by kernel_rfl
@[simp] theorem call67 : ∀ (args : Array Value) (w : World), (callFunc 67 args).run prog w = .ok (.enter 67 args) w := fun args w => by kernel_rfl
@[simp] theorem func88 : prog.funcs[88]? = some Try.f88 := by kernel_rfl
@[simp] theorem call88 : ∀ (args : Array Value) (w : World), (callFunc 88 args).run prog w = .ok (.enter 88 args) w := fun args w => by kernel_rfl
@[simp] theorem func93 : prog.funcs[93]? = some Try.f93 := by kernel_rfl
@[simp] theorem func101 : prog.funcs[101]? = some Try.f101 := by kernel_rfl
@[simp] theorem func38 : prog.funcs[38]? = some f38 := by kernel_rfl
end Go.Proofs.Tp
end
section
set_option linter.unusedVariables false
set_option linter.unusedSimpArgs false
namespace Go.Proofs.Ytcoppnbjpncdcaa.Q
open Go Go.Conc Go.Proofs.Ytcoppnbjpncdcaa.Sim
theorem ok_run {P : Program} {α : Type} {s : Sem α} {v v₁ : World} {a : α} {es : Array Event} (h : s.runT P v #[] = (.ok a v₁, es)) : s.run P v = .ok a v₁ := congrArg Prod.fst ((Sem.runT_eq P s v #[]).symm.trans h)
section
variable {v v₁ : World} {ρ : Operand → Value} {o : Oper} {a : Next}
theorem inv_ld3 (hs : SW v) {x : Operand} (hop : o.op = .load 3 x) (h : (execOp ρ o).run Tp.prog v = .ok a v₁) : ∃ b off z, ρ x = .pointer (some ⟨b, off, none⟩) ∧ v.cell? ⟨b, off, none⟩ = some z ∧ a = .value z ∧ v = v₁ := by
 unfold execOp at h
 simp only [hop] at h
 cases hx : ρ x with
 | pointer p =>
   cases p with
   | none => simp [go_sem, hx, Instr.sureAddr] at h
   | some ad =>
     cases hc : v.cell? ad with
     | none =>
       obtain ⟨y, hy, _⟩ := farLoad_sw hs Tp.prog ad false
       have hm : (Mode.plain == Mode.atomic) = false := rfl
       simp [go_sem, hx, Instr.sureAddr, hc, hm, hy, Sem.run, Go.load] at h
     | some z =>
       simp [go_sem, hx, Instr.sureAddr, hc] at h
       obtain ⟨b, off, sp⟩ := ad
       cases sp with
       | none => exact ⟨b, off, z, rfl, hc, h.1.symm, h.2⟩
       | some q =>
         unfold World.cell? at hc
         split at hc
         · simp at hc
         · cases hc
 | _ => simp [go_sem, hx, Instr.sureAddr] at h
theorem inv_lss0 {x : Operand} (hop : o.op = .binOp .lss 3 x Tp.i0 3) (hρ : ∀ c, ρ (.const c) = c) (h : (execOp ρ o).run Tp.prog v = .ok a v₁) : ∃ i : Int, ρ x = .int .i64 i ∧ a = .value (.bool (decide (i < 0))) ∧ v = v₁ := by
 unfold execOp at h
 simp only [hop, Tp.i0, hρ] at h
 cases hx : ρ x with
 | int k i =>
   by_cases hk : k = .i64
   · subst hk
     simp [go_sem, hx, Go.eqGuard, Go.binOp, Op.intCmp] at h
     exact ⟨i, rfl, h.1.symm, h.2⟩
   · simp [go_sem, hx, Go.eqGuard, Go.binOp, hk] at h
 | _ => simp [go_sem, hx, Go.eqGuard, Go.binOp] at h
theorem inv_len {x : Operand} (hop : o.op = .call { callee := .builtin .len, args := #[x], argTypes := #[28] }) (h : (execOp ρ o).run Tp.prog v = .ok a v₁) : ∃ p n c, ρ x = .slice p n c ∧ a = .value (.int .i64 n) ∧ v = v₁ := by
 unfold execOp at h
 simp only [hop] at h
 have e : ∀ t y, (Builtin.len_ #[28] t #[y]).run Tp.prog v = (match y with | .slice _ n _ => .ok (.int .i64 n) v | _ => .halt (.stuck "len: string, array, pointer to array, slice, map or channel expected") v) := by
   intro t y
   have hu := Tp.runUnderlying28 v
   generalize Tp.prog = P at hu
   simp [Builtin.len_, go_sem, hu]
   cases y <;> rfl
 simp [go_sem, e] at h
 cases hx : ρ x with
 | slice p n c =>
   rw [hx] at h
   simp at h
   exact ⟨p, n, c, rfl, h.1.symm, h.2⟩
 | _ => rw [hx] at h; simp at h
theorem inv_ix {x y : Operand} {p : Option Addr} {n c i : Nat} (hop : o.op = .indexAddr 28 x y) (hx : ρ x = .slice p n c) (hy : ρ y = .int .i64 i) (hi : i < n) (h : (execOp ρ o).run Tp.prog v = .ok a v₁) : ∃ ad, p = some ad ∧ a = .value (.pointer (some (ad.add (i * 2)))) ∧ v = v₁ := by
 unfold execOp at h
 simp only [hop, hx, hy] at h
 cases p with
 | none =>
   simp [go_sem, Instr.indexAt] at h
   obtain ⟨s, w', e⟩ := run_boundsPanic (P := Tp.prog) (w := v) (α := Value) .i64 i 0 .index
   rw [e] at h
   cases h
 | some ad =>
   simp [go_sem, hi] at h
   exact ⟨ad, rfl, h.1.symm, h.2⟩
end
end Go.Proofs.Ytcoppnbjpncdcaa.Q
end
section
set_option linter.unusedVariables false
set_option linter.unusedSimpArgs false
namespace Go.Proofs.Ytcoppnbjpncdcaa.Q
open Go Go.Conc Go.Proofs.Ytcoppnbjpncdcaa.Sim
def husks (v : World) (k : Nat) : World := { v with heap := v.heap ++ Array.replicate k husk }
theorem husks_zero (v : World) : husks v 0 = v := by unfold husks; simp
theorem husks_push (v : World) (k : Nat) : { husks v k with heap := (husks v k).heap.push husk } = husks v (k + 1) := by
 unfold husks
 simp only [Array.push_append, ← Array.replicate_succ]
theorem husks_size (v : World) (k : Nat) : (husks v k).heap.size = v.heap.size + k := by simp [husks]
theorem husks_old (v : World) (k : Nat) {b : Nat} (h : b < v.heap.size) : (husks v k).heap[b]? = v.heap[b]? := by
 unfold husks
 exact Array.getElem?_append_left h
theorem husks_new (v : World) (k : Nat) {b : Nat} (h : v.heap.size ≤ b) (h2 : b < v.heap.size + k) : (husks v k).heap[b]? = some husk := by
 unfold husks
 rw [Array.getElem?_append_right h, Array.getElem?_replicate, if_pos (by omega)]
theorem husks_cell {v : World} {k : Nat} {a : Addr} {z : Value} (h : (husks v k).cell? a = some z) : v.cell? a = some z := by
 unfold World.cell? at h ⊢
 by_cases hb : a.block < v.heap.size
 · rw [husks_old v k hb] at h; exact h
 · by_cases hk : a.block < v.heap.size + k
   · rw [husks_new v k (by omega) hk] at h
     simp [husk] at h
   · rw [Array.getElem?_eq_none (by rw [husks_size]; omega)] at h
     cases h
theorem husks_cell' {v : World} {k : Nat} {a : Addr} {z : Value} (h : v.cell? a = some z) : (husks v k).cell? a = some z := by
 have hb : a.block < v.heap.size := lt_of_cell h
 unfold World.cell? at h ⊢
 rw [husks_old v k hb]; exact h
section
variable {Post : Value → World → Prop} {l : List Frame} {x₀ : Frame × List Frame × World} {T : Array Value} {k : List Item} {v : World}
theorem On.val {S : Program} {v' : World} {ops : Array Oper} {i : Nat} {is : List Nat} {o : Oper} {x : Value} (h : On S Post l x₀ T (.inRegion ops (i :: is) :: k) v) (ho : ops[i]? = some o) (hw : Region.wanted o (yieldedT ops T) = true) (hr : (execOp (evalT T) o).run S v = .ok (.value x) v') :
   On S Post l x₀ (putT T o.dst x) (.inRegion ops is :: k) v' := by
 have := stepG_value (P := S) (main := true) (b := base 38) (a := ⟨T, []⟩) (cs := l ++ [noWay S]) (k := k) (rest := is) (w := v) ho (wantedA hw) (by simp [base]) (by rw [evalA]; exact hr)
 rw [putA] at this
 exact h.step this
theorem run_hk (T : Array Value) (v : World) : (execOp (evalT T) Tp.hk).run Tp.prog v = .ok (.value (.pointer (some ⟨v.heap.size, 0, none⟩))) { v with heap := v.heap.push husk } := by
 have hu := Tp.runUnderlying9 v
 unfold execOp
 simp only [Tp.hk, Tp.op, evalT_const]
 simp [go_sem, Instr.range, hu]
 rfl
theorem On.husk {n : Nat} {ops : Array Oper} {i : Nat} {is : List Nat} (h : On Tp.prog Post l x₀ T (.inRegion ops (i :: is) :: k) (husks v n)) (ho : ops[i]? = some Tp.hk) :
   ∃ x, On Tp.prog Post l x₀ (putT T (some 19) x) (.inRegion ops is :: k) (husks v (n + 1)) := by
 have := h.val ho rfl (run_hk _ _)
 rw [husks_push] at this
 exact ⟨_, this⟩
theorem SW.husks {v : World} (h : SW v) (k : Nat) : SW (husks v k) := by
 intro b o ho
 by_cases hb : b < v.heap.size
 · rw [husks_old v k hb] at ho; exact h b o ho
 · by_cases hk : b < v.heap.size + k
   · rw [husks_new v k (by omega) hk] at ho
     exact .inr (.inl (Option.some.inj ho).symm)
   · rw [Array.getElem?_eq_none (by rw [husks_size]; omega)] at ho
     cases ho
structure TA (n : Nat) (sl p5 : Value) (least : Int) (T : Array Value) : Prop where
 size : T.size = 63
 s5 : evalT T (.tmp 5) = p5
 s7 : evalT T (.tmp 7) = sl
 s15 : evalT T (.tmp 15) = .int .i64 least
 s17 : evalT T (.tmp 17) = .int .i64 n
theorem TA.put {n : Nat} {sl p5 : Value} {least : Int} {T : Array Value} (h : TA n sl p5 least T) {t : Nat} (ht : ∀ s ∈ [5, 7, 15, 17], s ≠ t) (ht2 : t < 63) (x : Value) : TA n sl p5 least (putT T (some t) x) := by
 have e : ∀ s : Nat, s ∈ [5, 7, 15, 17] → evalT (putT T (some t) x) (.tmp s) = evalT T (.tmp s) := fun s hs => ev_ne h.size ht2 (ht s hs)
 exact ⟨by rw [size_putT]; exact h.size, (e 5 (by decide)).trans h.s5, (e 7 (by decide)).trans h.s7, (e 15 (by decide)).trans h.s15, (e 17 (by decide)).trans h.s17⟩
theorem offT_0 : offP Tp.prog 30 0 = some 0 := by kernel_rfl
theorem offT_1 : offP Tp.prog 30 1 = some 1 := by kernel_rfl
theorem seqA (hsw : SW v) (hsz : T.size = 63) (h : On Tp.prog Post l x₀ T [.code Tp.tail] v) :
   ∃ T' p n c bl lo least, n ≤ 9 ∧ evalT T (.tmp 7) = .slice p n c ∧ evalT T (.tmp 5) = .pointer (some ⟨bl, lo, none⟩) ∧ v.cell? ⟨bl, lo, none⟩ = some (.int .i64 least) ∧
     TA n (.slice p n c) (.pointer (some ⟨bl, lo, none⟩)) least T' ∧ evalT T' (.tmp 20) = .int .i64 0 ∧ On Tp.prog Post l x₀ T' [.code Tp.lpA, .inLoop Tp.lpA, .inBlock 0, .code Tp.t4] (husks v 5) := by
 have h := On.run (offP_ok _) 2 h
 simp only [Tp.tail, evRun, evStep, show Tp.opsA.size = 4 from rfl, List.range, List.range.loop] at h
 obtain ⟨a, v1, es, hr, hval, _⟩ := h.oper Tp.twins hsw (o := Tp.op 15 (.load 3 (.tmp 5))) rfl (by kernel_rfl) rfl
 obtain ⟨bl, lo, z, h5, hc, rfl, rfl⟩ := inv_ld3 hsw rfl (ok_run hr)
 replace h := hval _ rfl
 rw [show (Tp.op 15 (.load 3 (.tmp 5))).dst = some 15 from rfl] at h
 have e15 : ∀ s : Nat, s ≠ 15 → evalT (putT T (some 15) z) (.tmp s) = evalT T (.tmp s) := fun s hs => ev_ne hsz (by decide) hs
 have g15 : evalT (putT T (some 15) z) (.tmp 15) = z := ev_eq hsz (by decide)
 have z1 : (putT T (some 15) z).size = 63 := by rw [size_putT]; exact hsz
 obtain ⟨T1, hT1⟩ : ∃ T1, T1 = putT T (some 15) z := ⟨_, rfl⟩
 rw [← hT1] at h e15 g15 z1
 clear hval hr
 obtain ⟨a, v1, es, hr, hval, _⟩ := h.oper Tp.twins hsw (o := Tp.op 16 (.binOp .lss 3 (.tmp 15) Tp.i0 3)) rfl (by kernel_rfl) rfl
 obtain ⟨least, hl, rfl, rfl⟩ := inv_lss0 rfl (fun _ => rfl) (ok_run hr)
 replace h := hval _ rfl
 rw [show (Tp.op 16 (.binOp .lss 3 (.tmp 15) Tp.i0 3)).dst = some 16 from rfl] at h
 have e16 : ∀ (x : Value) (s : Nat), s ≠ 16 → evalT (putT T1 (some 16) x) (.tmp s) = evalT T1 (.tmp s) := fun x s hs => ev_ne z1 (by decide) hs
 have z2 : ∀ x, (putT T1 (some 16) x).size = 63 := fun x => by rw [size_putT]; exact z1
 obtain ⟨T2, hT2⟩ : ∃ T2, T2 = putT T1 (some 16) (.bool (decide (least < 0))) := ⟨_, rfl⟩
 replace e16 := e16 (.bool (decide (least < 0)))
 replace z2 := z2 (.bool (decide (least < 0)))
 rw [← hT2] at h e16 z2
 clear hval hr
 obtain ⟨a, v1, es, hr, hval, _⟩ := h.oper Tp.twins hsw (o := Tp.lenOp 17 7) rfl (by kernel_rfl) rfl
 obtain ⟨p, n, c, h7, rfl, rfl⟩ := inv_len rfl (ok_run hr)
 replace h := hval _ rfl
 rw [show (Tp.lenOp 17 7).dst = some 17 from rfl] at h
 have e17 : ∀ s : Nat, s ≠ 17 → evalT (putT T2 (some 17) (.int .i64 n)) (.tmp s) = evalT T2 (.tmp s) := fun s hs => ev_ne z2 (by decide) hs
 have g17 : evalT (putT T2 (some 17) (.int .i64 n)) (.tmp 17) = .int .i64 n := ev_eq z2 (by decide)
 have z3 : (putT T2 (some 17) (.int .i64 n)).size = 63 := by rw [size_putT]; exact z2
 obtain ⟨T3, hT3⟩ : ∃ T3, T3 = putT T2 (some 17) (.int .i64 n) := ⟨_, rfl⟩
 rw [← hT3] at h e17 g17 z3
 have k7 : evalT T (.tmp 7) = .slice p n c := by rw [← e15 7 (by decide), ← e16 7 (by decide)]; exact h7
 have hTA : TA n (.slice p n c) (.pointer (some ⟨bl, lo, none⟩)) least T3 := by
   refine ⟨z3, ?_, ?_, ?_, g17⟩
   · rw [e17 5 (by decide), e16 5 (by decide), e15 5 (by decide)]; exact h5
   · rw [e17 7 (by decide), e16 7 (by decide), e15 7 (by decide)]; exact k7
   · rw [e17 15 (by decide), e16 15 (by decide)]; exact hl
 clear hval hr
 replace h := On.run (offP_ok _) 3 h
 have q18 : evPure (offP Tp.prog) (evalT T3) (.binOp .leq 3 (.tmp 17) (.const (.int .i64 9)) 3) = some (.bool (decide ((n : Int) ≤ 9))) := by simp [evPure, g17, evalT_const, intBin]
 simp only [evRun, evStep, show Tp.opsA[3]? = some (Tp.op 18 (.binOp .leq 3 (.tmp 17) (.const (.int .i64 9)) 3)) from rfl, show Region.wanted (Tp.op 18 (.binOp .leq 3 (.tmp 17) (.const (.int .i64 9)) 3)) (yieldedT Tp.opsA T3) = true from rfl, if_true,
   show (Tp.op 18 (.binOp .leq 3 (.tmp 17) (.const (.int .i64 9)) 3)).op = .binOp .leq 3 (.tmp 17) (.const (.int .i64 9)) 3 from rfl, q18, show (Tp.op 18 (.binOp .leq 3 (.tmp 17) (.const (.int .i64 9)) 3)).dst = some 18 from rfl, Tp.t1] at h
 have hTB := hTA.put (t := 18) (by decide) (by decide) (.bool (decide ((n : Int) ≤ 9)))
 have g18 : evalT (putT T3 (some 18) (.bool (decide ((n : Int) ≤ 9)))) (.tmp 18) = .bool (decide ((n : Int) ≤ 9)) := ev_eq z3 (by decide)
 obtain ⟨T4, hT4⟩ : ∃ T4, T4 = putT T3 (some 18) (.bool (decide ((n : Int) ≤ 9))) := ⟨_, rfl⟩
 rw [← hT4] at h hTB g18
 by_cases hn : (n : Int) ≤ 9
 · rw [decide_eq_true hn] at g18
   replace h := On.run (offP_ok _) 4 h
   simp only [evRun, evStep, g18, Tp.t2, show Tp.opsB.size = 6 from rfl, List.range, List.range.loop] at h
   rw [← husks_zero v] at h
   obtain ⟨x1, h⟩ := h.husk rfl
   have hT5 := hTB.put (t := 19) (by decide) (by decide) x1
   obtain ⟨x2, h⟩ := h.husk rfl
   have hT6 := hT5.put (t := 19) (by decide) (by decide) x2
   obtain ⟨x3, h⟩ := h.husk rfl
   have hT7 := hT6.put (t := 19) (by decide) (by decide) x3
   obtain ⟨x4, h⟩ := h.husk rfl
   have hT8 := hT7.put (t := 19) (by decide) (by decide) x4
   obtain ⟨x5, h⟩ := h.husk rfl
   have hT9 := hT8.put (t := 19) (by decide) (by decide) x5
   generalize putT (putT (putT (putT (putT T4 (some 19) x1) (some 19) x2) (some 19) x3) (some 19) x4) (some 19) x5 = T9 at h hT9
   replace h := On.run (offP_ok _) 5 h
   simp only [evRun, evStep, show Tp.opsB[5]? = some (Tp.op 20 (.move Tp.i0)) from rfl, show Region.wanted (Tp.op 20 (.move Tp.i0)) (yieldedT Tp.opsB T9) = true from rfl, if_true, show (Tp.op 20 (.move Tp.i0)).op = .move Tp.i0 from rfl, evPure,
     show evalT T9 Tp.i0 = .int .i64 0 from rfl, show (Tp.op 20 (.move Tp.i0)).dst = some 20 from rfl, Tp.t3] at h
   exact ⟨_, p, n, c, bl, lo, least, by omega, k7, h5, by rw [hc, ← hl]; exact congrArg some g15.symm, hT9.put (by decide) (by decide) _, ev_eq hT9.size (by decide), h⟩
 · rw [decide_eq_false hn] at g18
   replace h := On.run (offP_ok _) 2 h
   simp only [evRun, evStep, g18] at h
   exact (On.refuse h).elim
end
end Go.Proofs.Ytcoppnbjpncdcaa.Q
end
