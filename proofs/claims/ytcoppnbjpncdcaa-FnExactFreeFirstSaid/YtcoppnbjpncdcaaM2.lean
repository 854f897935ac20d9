/-
  Part 2 of the proof (merged out of the texts of wip: QMast2, QCases, QPhase, QWg0, QWg1, QWg2, QWork, QMain, QMain2, QMain3, QMain4, QMain5, QMain6, QMain7).
-/
import Derived.Test.YtcoppnbjpncdcaaM1
section
set_option linter.unusedVariables false
set_option linter.unusedSimpArgs false
namespace Go.Proofs.Ytcoppnbjpncdcaa.Q
open Go Go.Conc
open Go.ConcR (KK WgAt wgBlock stA smA rd wr mk)
open Go.ConcM (OsLater)
open Go.ConcN (sumTo upd sumTo_upd upd_ne upd_same le_sumTo sumTo_congr RelBy)
def EvMn (C : Cfg) (Kr Pv : Nat → Prop) (N : Nat) (e : Event) : Prop :=
 (∀ x, (MemAct.ofEvent e).touch? = some x → (Shr C x.loc ∧ x.kind ≠ .plain) ∨ (x.kind ≠ .atomic ∧ ∃ a, x.loc = .cell a ∧ (Pv a.block ∨ (x.write = false ∧ Kr a.block)))) ∧
 e.loc ≠ .mark (.release (stA C.Wg)) ∧ (MemAct.ofEvent e).low N
section
variable {C : Cfg} {P : Program} {vals : Nat → Value × Value × Value} {Kr K0 : Nat → Prop} {Anch F0 : Goroutine → World → Prop} {E : Env}
theorem shr_blk {C : Cfg} {a : Addr} (h : Shr C (.cell a)) : a.block = C.F ∨ a.block = C.Wg := by
 rcases h with h | h | h | h <;> simp only [Loc.cell.injEq] at h <;> subst h
 · exact .inl rfl
 · exact .inl rfl
 · exact .inr rfl
 · exact .inr rfl
theorem may0 (O : EnvOk C P Kr K0 Anch F0 E) {Pv : Nat → Prop} (hp : ∀ b, Pv b → E.w0.heap.size ≤ b) {j : Nat} {kb : Nat → Nat → Prop} (hk : ∀ i b, kb i b → ¬ Pv b) {N : Nat} {e : Event} (h : EvMn C Kr Pv N e) (fn : FuncId) (pos : String) :
   May0 (fam C (fun l => ∃ a : Addr, l = .cell a ∧ E.J a.block) E.j0 kb) j { g := 0, fn, pos, act := .ofEvent e } := by
 refine ⟨rfl, fun x hx => ?_⟩
 rcases h.1 x hx with h | ⟨_, a, hl, h⟩
 · exact .inl h
 · right
   have notG : ¬ isG C a.block ∧ ¬ E.J a.block := by
     rcases h with h | ⟨_, h⟩
     · have := hp _ h
       exact ⟨fun hG => by have := (O.new _ hG).1; omega, fun hJ => by have := O.jlow _ hJ; omega⟩
     · exact ⟨(O.kr _ h).2.2, (O.kr _ h).2.1⟩
   refine ⟨fun hs => ?_, fun ⟨b, e, hj⟩ => ?_, by rw [hl]; rfl, fun k _ _ ho => ?_, fun hw k _ _ ho => ?_⟩
   · rw [hl] at hs
     rcases shr_blk hs with e | e
     · exact notG.1 (.inl e)
     · exact notG.1 (.inr (.inr (.inr e)))
   · rw [hl] at e
     simp only [Loc.cell.injEq] at e
     subst e
     exact notG.2 hj
   · obtain ⟨i, b, _, e, ho⟩ := ho
     rw [hl] at e
     simp only [Loc.cell.injEq] at e
     subst e
     exact notG.1 (ho.blk.elim (fun x => .inr (.inl x)) fun x => .inr (.inr (.inl x)))
   · obtain ⟨i, b, _, e, ho⟩ := ho
     rw [hl] at e
     simp only [Loc.cell.injEq] at e
     subst e
     rcases h with h | ⟨h, _⟩
     · rcases ho with ho | ⟨ho, _⟩
       · exact hk i _ ho h
       · exact notG.1 (.inl ho)
     · rw [h] at hw; cases hw
theorem stepM {μ : M3} {M : Machine} {t : Trace} {gs : Array Goroutine} {w w' : World} {sl : Option (Nat × Nat)} {u : Trace} {j : Nat} {D : Nat → WD} {tag tag' : Mp} {f0 f' : Nat} {q : Nat → Nat} {m : Mx} {ms v v' wt wt' sm sm' : Nat} {a a' : Goroutine}
   (I : PInv C P vals Kr K0 Anch F0 E μ M t gs w sl u j D tag f0 q m ms v wt sm a) {es : Array Event} (hgo : stepG P true a w = .go a' w' es) {X : Nat → Prop}
   (hE : Eff C (fun _ => False) X w w') (hX : ∀ b, X b → b = C.Wg ∨ tag.pv b) (hwg : WgAt C.tW C.Wg w' ((v' : Int) * KK + (wt' : Int)) (sm' : Int))
   (hs : MS C P vals Kr K0 Anch F0 tag' j f' (deafBehind (Deaf (E.t0 ++ u) 0) es) a' w') (hpv : ∀ b, tag'.pv b → tag.pv b ∨ (b = w.heap.size ∧ w.heap.size < w'.heap.size)) (hev : ∀ e ∈ es, EvMn C Kr tag.pv w'.heap.size e)
   (hW : WInv j (fun x => (D x).p) tag' v' wt' sm') (hal : w'.heap.size + tag.al = w.heap.size + tag'.al)
   (hlt : tag'.phi v' < tag.phi v ∨ (tag'.phi v' = tag.phi v ∧ (f' < f0 ∨ (f' = f0 ∧ tag'.awake < tag.awake ∧ wakes P a a' = false)))) :
   ∃ M' ops μ', runT P (crowd gs w sl) 0 = (.next M', ops) ∧ Lt3 μ' μ ∧ Invs C P vals Kr K0 Anch F0 E μ' M' (t ++ ops) := by
 have O := I.ok
 have c := I.com
 have A := O.apart
 have hlt' : 0 < gs.size := (Array.getElem?_eq_some_iff.1 I.zero).1
 have hrun := runT_crowd_go (P := P) (sl := sl) (i := 0) I.zero (by simpa using hgo)
 obtain ⟨b, hb⟩ : ∃ b, b = wakes P a a' := ⟨_, rfl⟩
 rw [← hb] at hlt
 obtain ⟨ops, hops⟩ : ∃ ops, ops = MemOp.ofEvents 0 a.frame.fn a.frame.place es := ⟨_, rfl⟩
 rw [← hops] at hrun
 have opg : ∀ op ∈ ops, op.g = 0 := fun op hop => by rw [hops] at hop; obtain ⟨e, _, rfl⟩ := Go.Conc.mem_ofEvents hop; rfl
 have pvHi : ∀ b, tag.pv b → E.w0.heap.size ≤ b := fun b hb => (c.pvs b hb).2
 have pvG : ∀ b, isG C b → ¬ tag.pv b := fun b hG hp => by have := (O.new b hG).1; have := pvHi b hp; omega
 have keep : ∀ b : Nat, isG C b → b ≠ C.Wg → w'.heap[b]? = w.heap[b]? := fun b hG hne => hE.blk b (Nat.lt_of_lt_of_le (O.new b hG).1 c.hsize) fun hx => (hX b hx).elim hne (pvG b hG)
 have hmu : MuAt C w' m ms := (keep C.F (.inl rfl) A.fw).trans c.mu
 have hgg : RowAt C.G C.tG (2 * C.n) w' := let ⟨cs, h1, h2⟩ := c.gg; ⟨cs, (keep C.G (.inr (.inl rfl)) A.gw).trans h1, h2⟩
 have hhh : RowAt C.H C.tH C.n w' := let ⟨cs, h1, h2⟩ := c.hh; ⟨cs, (keep C.H (.inr (.inr (.inl rfl))) A.hw).trans h1, h2⟩
 have live' : Live C w' := ⟨⟨m, ms, hmu⟩, ⟨_, _, hwg⟩, hgg, hhh⟩
 have tapp : ∀ x : Trace, E.t0 ++ (u ++ x) = (E.t0 ++ u) ++ x := fun x => (Array.append_assoc ..).symm
 obtain ⟨D', hD'⟩ : ∃ D', D' = wakeAll b D := ⟨_, rfl⟩
 have Dx : ∀ x, D' x = wake b (D x) := fun x => by rw [hD']; rfl
 have Dkb : ∀ x, (D' x).kb = (D x).kb := fun x => by rw [Dx x, wake_kb]
 have hsz' : w.heap.size ≤ w'.heap.size := hE.size
 have nkb : ∀ x, x < j → ∀ b, (D' x).kb b → b < w'.heap.size ∧ ¬ isG C b ∧ ¬ E.J b ∧ ¬ tag'.pv b := by
   intro x hx b hb
   rw [Dkb x] at hb
   have := c.kbs x hx b hb
   refine ⟨by omega, this.2.1, this.2.2.1, fun hp => ?_⟩
   rcases hpv b hp with h | ⟨h, _⟩
   · exact this.2.2.2 h
   · omega
 have hth : (fun x => (D' x).p.th) = fun x => (D x).p.th := by
   funext x; rw [Dx x]; exact wake_same Wp.th (fun _ => rfl) b (D x)
 have hWD : WInv j (fun x => (D' x).p) tag' v' wt' sm' := by
   have key : ∀ φ : Wp → Nat, (∀ T, φ (.bk T) = φ (.mu T)) → ∀ x, x < j → φ (D' x).p = φ (D x).p := by
     intro φ hφ x _
     rw [Dx x]; exact wake_same φ hφ b (D x)
   exact hW.congr (key Wp.cnt fun _ => rfl) (key Wp.d23 fun _ => rfl) (key Wp.e4 fun _ => rfl)
 have gsz : ((gs.map (woken P a a' w')).setIfInBounds 0 a').size = gs.size := by simp
 have gne : ∀ x, x ≠ 0 → ((gs.map (woken P a a' w')).setIfInBounds 0 a')[x]? = (gs[x]?).map (woken P a a' w') := fun x hx => by
   rw [Array.getElem?_setIfInBounds_ne (Ne.symm hx), Array.getElem?_map]
 have deafO : ∀ x, x ≠ 0 → Deaf (E.t0 ++ (u ++ ops)) x = Deaf (E.t0 ++ u) x := fun x hx => by
   rw [tapp]; exact Deaf_other _ (Ne.symm hx) _ opg
 have S' := fam_apart (kb := fun x b => x < j ∧ (D' x).kb b) O (fun x b hb => ⟨(nkb x hb.1 b hb.2).2.1, (nkb x hb.1 b hb.2).2.2.1⟩)
 have hfam : (fun (x b : Nat) => x < j ∧ (D' x).kb b) = fun (x b : Nat) => x < j ∧ (D x).kb b := by funext x b; rw [Dkb x]
 have hevo : ∀ op ∈ ops, ∃ e ∈ es, op = { g := 0, fn := a.frame.fn, pos := a.frame.place, act := .ofEvent e } := fun op hop => by rw [hops] at hop; exact Go.Conc.mem_ofEvents hop
 have tr2 : Tr (fam C (fun l => ∃ a : Addr, l = .cell a ∧ E.J a.block) E.j0 fun x b => x < j ∧ (D' x).kb b) (E.t0 ++ (u ++ ops)) (E.j0 + j) := by
   rw [tapp]
   refine Tr.app0 S' (hfam ▸ c.tr) (fun op hop => ?_) (fam_shO O)
   obtain ⟨e, he, rfl⟩ := hevo op hop
   exact may0 O pvHi (fun i b hb => by rw [Dkb i] at hb; exact (c.kbs i hb.1 b hb.2).2.2.2) (hev e he) _ _
 have suf2 : Suf (fam C (fun l => ∃ a : Addr, l = .cell a ∧ E.J a.block) E.j0 fun x b => x < j ∧ (D' x).kb b) (stA C.Wg) E.t0 (u ++ ops) := by
   refine Suf.app ⟨c.suf.atom, c.suf.norel⟩ (fun op hop x hx hkd => ?_) (fun op hop hact => ?_)
   · obtain ⟨e, he, rfl⟩ := hevo op hop
     rcases (hev e he).1 x hx with h | ⟨h3, _⟩
     · exact h.1
     · exact absurd hkd h3
   · obtain ⟨e, he, rfl⟩ := hevo op hop
     exact (hev e he).2.1 (loc_of_act hact)
 have com' : Com C P vals E ((gs.map (woken P a a' w')).setIfInBounds 0 a') w' (u ++ ops) j D' tag'.pv q m ms v' wt' sm' := by
   refine ⟨gsz.trans c.size, fun x y h1 h2 hx => ?_, fun x hx => ?_, fun x hx hp => ?_, fun x hx hp => ?_, nkb, fun b hb => ?_, fun x hx => ?_, hmu, hwg, hgg, hhh, fun b hb hG => ?_, Nat.le_trans c.hsize hsz', c.os.trans hE.os, hE.out.trans c.out,
     tr2, suf2, fun op hop => ?_, fun op hop => ?_, c.fresh, fun x h1 h2 => let ⟨z1, z2, z3⟩ := c.zero x h1 h2; ⟨(hE.cells x _ id ⟨rfl, .inl ⟨rfl, .inl rfl⟩⟩).trans z1, (hE.cells x _ id ⟨rfl, .inl ⟨rfl, .inr rfl⟩⟩).trans z2, (hE.cells x _ id ⟨rfl, .inr ⟨rfl, rfl⟩⟩).trans z3⟩, c.past0, fun b h1 h2 => hE.shp b (fun hG => absurd (O.new b hG).1 (by omega)) (fun h => c.shp b h1 h) h2⟩
   · rw [gne x (by omega)] at hx
     obtain ⟨y', hy', rfl⟩ := Option.map_eq_some_iff.1 hx
     have hq := c.old x y' h1 h2 hy'
     rw [woken_quitsD hq, deafO x (by omega)]
     exact hq
   · obtain ⟨y, hy, hws⟩ := c.wk x hx
     refine ⟨woken P a a' w' y, by rw [gne _ (by omega), hy]; rfl, ?_⟩
     rw [Dx x, deafO _ (by omega), hb]
     have hr : Ry C (· = x) (D x).kb w w' := hE.ry (fun i' h1 h2 => h2) (fun b hb' hx' => by
       have := c.kbs x hx b hb'
       rcases hX b hx' with h | h
       · exact this.2.1 (.inr (.inr (.inr h)))
       · exact this.2.2.2 h) live'
     exact (hws.rely hr).woken a a' w'
   · have hp' : (D x).p.past := by
       rcases wake_p b (D x) with h | ⟨T, h1, h2, _⟩
       · rw [Dx x, h] at hp; exact hp
       · rw [Dx x, h2] at hp; exact hp.elim
     obtain ⟨h1, h2, h3⟩ := c.has x hx hp'
     exact ⟨(hE.cells x _ id ⟨rfl, .inl ⟨rfl, .inl rfl⟩⟩).trans h1, (hE.cells x _ id ⟨rfl, .inl ⟨rfl, .inr rfl⟩⟩).trans h2, (hE.cells x _ id ⟨rfl, .inr ⟨rfl, rfl⟩⟩).trans h3⟩
   · have hp' : (D x).p.said := by
       rcases wake_p b (D x) with h | ⟨T, h1, h2, _⟩
       · rw [Dx x, h] at hp; exact hp
       · rw [Dx x, h2] at hp; exact hp.elim
     obtain ⟨r, hr⟩ := c.rel x hx hp'
     exact ⟨r, by rw [tapp]; exact Go.ConcN.RelBy.appOther hr opg (by omega)⟩
   · rcases hpv b hb with h | ⟨rfl, h⟩
     · exact ⟨by have := (c.pvs b h).1; omega, (c.pvs b h).2⟩
     · exact ⟨h, c.hsize⟩
   · rw [deafO x (by rw [gsz] at hx; omega)]
     exact c.above x (by rw [gsz] at hx; exact hx)
   · exact (hE.blk b (Nat.lt_of_lt_of_le hb c.hsize) fun hx => (hX b hx).elim (fun h => hG (.inr (.inr (.inr h)))) fun h => by have := pvHi b h; omega).trans (c.frame b hb hG)
   · rw [tapp] at hop
     rcases Array.mem_append.1 hop with h | h
     · exact MemAct.low_mono hsz' (c.low op h)
     · obtain ⟨e, he, rfl⟩ := hevo op h
       exact (hev e he).2.2
   · rcases Array.mem_append.1 hop with h | h
     · exact c.who op h
     · exact .inl (opg op h)
 refine ⟨_, ops, msr E.j0 j D' tag' f' q C.n m ms v', hrun, ?_, (gs.map (woken P a a' w')).setIfInBounds 0 a', w', sl, u ++ ops, j, D', tag', f', q, m, ms, v', wt', sm', a', ?_⟩
 · rw [I.isμ]
   have e1 : (sumTo j fun x => (D' x).p.wt) = sumTo j fun x => (D x).p.wt := by rw [hD']; exact wakeAll_sum Wp.wt (fun _ => rfl) b D j
   have e2 : (sumTo j fun x => (D' x).p.rk m) = sumTo j fun x => (D x).p.rk m := by rw [hD']; exact wakeAll_sum (Wp.rk m) (fun _ => rfl) b D j
   have e3 : (sumTo j fun x => (D' x).f) = sumTo j fun x => (D x).f := sumTo_congr fun x _ => by rw [Dx x]; exact wake_f b (D x)
   have haw : (sumTo j fun x => (D' x).p.awake) ≤ j := sum_le' fun x => awake_le _
   have htw : tag'.awake ≤ 1 := by cases tag' <;> simp [Mp.awake]
   have hjn : j + tag.left = C.n := I.sit.1
   unfold msr Lt3
   rw [e1, e2, e3]
   rcases hlt with h | ⟨h, h'⟩
   · exact Prod.Lex.left _ _ (by omega)
   · rw [h]
     refine Prod.Lex.right _ (Prod.Lex.right _ ?_)
     rcases h' with h'' | ⟨rfl, h2, rfl⟩
     · obtain ⟨F, hF⟩ : ∃ F, F = (sumTo j fun x => (D x).f) + f' + sumTo (E.j0 + 1) q := ⟨_, rfl⟩
       obtain ⟨G, hG⟩ : ∃ G, G = (sumTo j fun x => (D x).f) + f0 + sumTo (E.j0 + 1) q := ⟨_, rfl⟩
       rw [← hF, ← hG]
       have hFG : F + 1 ≤ G := by omega
       have := Nat.mul_le_mul_left (C.n + 2) hFG
       rw [Nat.mul_add] at this
       omega
     · have : D' = D := by rw [hD']; rfl
       rw [this]
       omega
 · refine ⟨O, rfl, by rw [I.isT, tapp], Array.getElem?_setIfInBounds_self_of_lt (by simpa using hlt'), ?_, com', by rw [hth]; exact I.mu, hWD, fun x hx hT => ?_, (by have h1 : (sumTo j fun x => (D' x).p.al) = sumTo j fun x => (D x).p.al := (by rw [hD']; exact wakeAll_sum Wp.al (fun _ => rfl) b D j); have h2 := I.cnt; rw [h1]; omega), rfl⟩
   · rw [tapp, hops, Deaf_own]; exact hs
   · obtain ⟨T, hT⟩ := hT
     rcases wake_p b (D x) with h | ⟨T', _, h2, _⟩
     · rw [Dx x, h] at hT; exact I.blk x hx ⟨T, hT⟩
     · rw [Dx x, h2] at hT; cases hT
theorem stepO {μ : M3} {M : Machine} {t : Trace} {gs : Array Goroutine} {w : World} {sl : Option (Nat × Nat)} {u : Trace} {j : Nat} {D : Nat → WD} {tag : Mp} {f0 : Nat} {q : Nat → Nat} {m : Mx} {ms v wt sm : Nat} {a : Goroutine}
   (I : PInv C P vals Kr K0 Anch F0 E μ M t gs w sl u j D tag f0 q m ms v wt sm a) {k : Nat} (k1 : 1 ≤ k) (kj : k ≤ E.j0) {g : Goroutine} (hg : gs[k]? = some g) (hrun : g.status = .running) :
   ∃ M' ops μ', runT P (crowd gs w sl) k = (.next M', ops) ∧ Lt3 μ' μ ∧ Invs C P vals Kr K0 Anch F0 E μ' M' (t ++ ops) := by
 have O := I.ok
 have c := I.com
 have hk0 : k ≠ 0 := by omega
 have hkb0 : (k == 0) = false := by simp [hk0]
 have hlt' : k < gs.size := (Array.getElem?_eq_some_iff.1 hg).1
 have hq := c.old k g k1 kj hg
 cases hqk : q k with
 | zero => rw [hqk] at hq; rw [hq.1] at hrun; cases hrun
 | succ p =>
 rw [hqk] at hq
 rcases hq with ⟨hf, _⟩ | ⟨_, g', es, hm, hstp, hq'⟩
 · rw [hf] at hrun; cases hrun
 have hrunT := runT_crowd_go (P := P) (sl := sl) (i := k) hg (by rw [hkb0]; exact hstp w)
 obtain ⟨b, hb⟩ : ∃ b, b = wakes P g g' := ⟨_, rfl⟩
 obtain ⟨ops, hops⟩ : ∃ ops, ops = MemOp.ofEvents k g.frame.fn g.frame.place es := ⟨_, rfl⟩
 rw [← hops] at hrunT
 have opg : ∀ op ∈ ops, op.g = k := fun op hop => by rw [hops] at hop; obtain ⟨e, _, rfl⟩ := Go.Conc.mem_ofEvents hop; rfl
 have opn : ∀ op ∈ ops, op.act.touch? = none := fun op hop => by rw [hops] at hop; obtain ⟨e, he, rfl⟩ := Go.Conc.mem_ofEvents hop; exact touch_mute (hm e he)
 have tapp : ∀ x : Trace, E.t0 ++ (u ++ x) = (E.t0 ++ u) ++ x := fun x => (Array.append_assoc ..).symm
 obtain ⟨D', hD'⟩ : ∃ D', D' = wakeAll b D := ⟨_, rfl⟩
 have Dx : ∀ x, D' x = wake b (D x) := fun x => by rw [hD']; rfl
 have Dkb : ∀ x, (D' x).kb = (D x).kb := fun x => by rw [Dx x, wake_kb]
 have hth : (fun x => (D' x).p.th) = fun x => (D x).p.th := by
   funext x; rw [Dx x]; exact wake_same Wp.th (fun _ => rfl) b (D x)
 have hWD : WInv j (fun x => (D' x).p) (wakeM b tag) v wt sm := by
   have key : ∀ φ : Wp → Nat, (∀ T, φ (.bk T) = φ (.mu T)) → ∀ x, x < j → φ (D' x).p = φ (D x).p := by
     intro φ hφ x _
     rw [Dx x]; exact wake_same φ hφ b (D x)
   exact (I.wg.congr (key Wp.cnt fun _ => rfl) (key Wp.d23 fun _ => rfl) (key Wp.e4 fun _ => rfl)).wakeM b
 have gsz : ((gs.map (woken P g g' w)).setIfInBounds k g').size = gs.size := by simp
 have gne : ∀ x, x ≠ k → ((gs.map (woken P g g' w)).setIfInBounds k g')[x]? = (gs[x]?).map (woken P g g' w) := fun x hx => by
   rw [Array.getElem?_setIfInBounds_ne (Ne.symm hx), Array.getElem?_map]
 have deafO : ∀ x, x ≠ k → Deaf (E.t0 ++ (u ++ ops)) x = Deaf (E.t0 ++ u) x := fun x hx => by
   rw [tapp]; exact Deaf_other _ (Ne.symm hx) _ opg
 have hfam : (fun (x b : Nat) => x < j ∧ (D' x).kb b) = fun (x b : Nat) => x < j ∧ (D x).kb b := by funext x b; rw [Dkb x]
 have hpv : (wakeM b tag).pv = tag.pv := wakeM_same Mp.pv rfl b tag
 have com' : Com C P vals E ((gs.map (woken P g g' w)).setIfInBounds k g') w (u ++ ops) j D' (wakeM b tag).pv (upd q k p) m ms v wt sm := by
   refine ⟨gsz.trans c.size, fun x y h1 h2 hx => ?_, fun x hx => ?_, fun x hx hp => ?_, fun x hx hp => ?_, fun x hx b' hb' => ?_, by rw [hpv]; exact c.pvs, fun x hx => ?_, c.mu, c.wg, c.gg, c.hh, c.frame, c.hsize, c.os, c.out,
     ?_, Suf.app ⟨c.suf.atom, c.suf.norel⟩ (fun op hop x hx => by rw [opn op hop] at hx; cases hx) (fun op hop e => ?_), fun op hop => ?_, fun op hop => ?_, c.fresh, c.zero, c.past0, c.shp⟩
   · by_cases e : x = k
     · subst e
       rw [Array.getElem?_setIfInBounds_self_of_lt (by simpa using hlt')] at hx
       obtain rfl := Option.some.inj hx
       rw [upd_same, tapp, hops, Deaf_own]
       exact hq'
     · rw [gne x e] at hx
       obtain ⟨y', hy', rfl⟩ := Option.map_eq_some_iff.1 hx
       have hq := c.old x y' h1 h2 hy'
       rw [woken_quitsD hq, deafO x e, upd_ne _ _ e]
       exact hq
   · obtain ⟨y, hy, hws⟩ := c.wk x hx
     refine ⟨woken P g g' w y, by rw [gne _ (by omega), hy]; rfl, ?_⟩
     rw [Dx x, deafO _ (by omega), hb]
     exact hws.woken g g' w
   · have hp' : (D x).p.past := by
       rcases wake_p b (D x) with h | ⟨T, h1, h2, _⟩
       · rw [Dx x, h] at hp; exact hp
       · rw [Dx x, h2] at hp; exact hp.elim
     exact c.has x hx hp'
   · have hp' : (D x).p.said := by
       rcases wake_p b (D x) with h | ⟨T, h1, h2, _⟩
       · rw [Dx x, h] at hp; exact hp
       · rw [Dx x, h2] at hp; exact hp.elim
     obtain ⟨r, hr⟩ := c.rel x hx hp'
     exact ⟨r, by rw [tapp]; exact Go.ConcN.RelBy.appOther hr opg (by omega)⟩
   · rw [Dkb x] at hb'
     rw [hpv]
     exact c.kbs x hx b' hb'
   · rw [deafO x (by rw [gsz] at hx; omega)]
     exact c.above x (by rw [gsz] at hx; exact hx)
   · rw [tapp, hfam]
     exact c.tr.appMute opn opg
   · have := opn op hop
     rw [hops] at hop
     obtain ⟨ev, he, rfl⟩ := Go.Conc.mem_ofEvents hop
     have h1 := loc_of_act e
     have h2 := hm ev he
     obtain ⟨loc, wr, sy⟩ := ev
     simp only at h1
     subst h1
     simp [Event.mute] at h2
   · rw [tapp] at hop
     rcases Array.mem_append.1 hop with h | h
     · exact c.low op h
     · rw [hops] at h
       obtain ⟨e, he, rfl⟩ := Go.Conc.mem_ofEvents h
       exact low_mute (hm e he) _
   · rcases Array.mem_append.1 hop with h | h
     · exact c.who op h
     · exact .inr (.inl (opn op h))
 refine ⟨_, ops, msr E.j0 j D' (wakeM b tag) f0 (upd q k p) C.n m ms v, hrunT, ?_, (gs.map (woken P g g' w)).setIfInBounds k g', w, sl, u ++ ops, j, D', wakeM b tag, f0, upd q k p, m, ms, v, wt, sm, woken P g g' w a, ?_⟩
 · rw [I.isμ]
   have e1 : (sumTo j fun x => (D' x).p.wt) = sumTo j fun x => (D x).p.wt := by rw [hD']; exact wakeAll_sum Wp.wt (fun _ => rfl) b D j
   have e2 : (sumTo j fun x => (D' x).p.rk m) = sumTo j fun x => (D x).p.rk m := by rw [hD']; exact wakeAll_sum (Wp.rk m) (fun _ => rfl) b D j
   have e3 : (sumTo j fun x => (D' x).f) = sumTo j fun x => (D x).f := sumTo_congr fun x _ => by rw [Dx x]; exact wake_f b (D x)
   have e4 : sumTo (E.j0 + 1) (upd q k p) + q k = sumTo (E.j0 + 1) q + p := sumTo_upd q p id (by omega)
   have haw : (sumTo j fun x => (D' x).p.awake) ≤ j := sum_le' fun x => awake_le _
   have htw : (wakeM b tag).awake ≤ 1 := by cases wakeM b tag <;> simp [Mp.awake]
   have hjn : j + tag.left = C.n := I.sit.1
   unfold msr Lt3
   rw [e1, e2, e3, show (wakeM b tag).phi v = tag.phi v from wakeM_same (Mp.phi v) rfl b tag]
   refine Prod.Lex.right _ (Prod.Lex.right _ ?_)
   obtain ⟨F, hF⟩ : ∃ F, F = (sumTo j fun x => (D x).f) + f0 + sumTo (E.j0 + 1) (upd q k p) := ⟨_, rfl⟩
   obtain ⟨G, hG⟩ : ∃ G, G = (sumTo j fun x => (D x).f) + f0 + sumTo (E.j0 + 1) q := ⟨_, rfl⟩
   rw [← hF, ← hG]
   have hFG : F + 1 ≤ G := by omega
   have := Nat.mul_le_mul_left (C.n + 2) hFG
   rw [Nat.mul_add] at this
   omega
 · refine ⟨O, rfl, by rw [I.isT, tapp], by rw [gne 0 (by omega), I.zero]; rfl, ?_, com', by rw [hth]; exact I.mu, hWD, fun x hx hT => ?_, (by have h1 : (sumTo j fun x => (D' x).p.al) = sumTo j fun x => (D x).p.al := (by rw [hD']; exact wakeAll_sum Wp.al (fun _ => rfl) b D j); have h2 := I.cnt; have h3 : (wakeM b tag).al = tag.al := wakeM_same Mp.al rfl b tag; rw [h1, h3]; omega), rfl⟩
   · rw [deafO 0 (by omega), hb]
     exact I.sit.woken g g' w
   · obtain ⟨T, hT⟩ := hT
     rcases wake_p b (D x) with h | ⟨T', _, h2, _⟩
     · rw [Dx x, h] at hT; exact I.blk x hx ⟨T, hT⟩
     · rw [Dx x, h2] at hT; cases hT
theorem AInv.push {j : Nat} {D D' : Nat → Th} {m : Mx} {ms : Nat} (h : AInv j D m ms) (e : ∀ x, x < j → D' x = D x) (hj : D' j = at_ .ld) : AInv (j + 1) D' m ms := by
 have sm : ∀ f : Th → Nat, f (at_ .ld) = 0 → (sumTo (j + 1) fun i => f (D' i)) = sumTo j fun i => f (D i) := fun f hf => by
   show (sumTo j fun i => f (D' i)) + f (D' j) = _
   rw [hj, hf, Nat.add_zero]
   exact sumTo_congr fun x hx => by rw [e x hx]
 have s1 := sm hold rfl
 have s2 := sm usn rfl
 have s3 := sm ucn rfl
 have s4 := sm t2n rfl
 have s5 := sm a1n rfl
 have s6 := sm regn rfl
 have s7 := sm awn rfl
 refine ⟨h.ok, fun i hi => ?_, by rw [s1]; exact h.lock, by rw [s2, s4, s5, s6, s7]; exact h.calm, by rw [s2, s4, s5, s6, s7]; exact h.storm, by rw [s3]; exact h.resp⟩
 rcases Nat.lt_or_ge i j with hlt | hge
 · rw [e i hlt]; exact h.wf i hlt
 · obtain rfl : i = j := by omega
   rw [hj]
   exact wf_at _ rfl (by simp)
theorem stepS {μ : M3} {M : Machine} {t : Trace} {gs : Array Goroutine} {w : World} {sl : Option (Nat × Nat)} {u : Trace} {j : Nat} {D : Nat → WD} {tag : Mp} {f0 : Nat} {q : Nat → Nat} {m : Mx} {ms v wt sm : Nat} {a a' child : Goroutine}
   (I : PInv C P vals Kr K0 Anch F0 E μ M t gs w sl u j D tag f0 q m ms v wt sm a) (hgo : stepG P true a w = .spawn a' child w #[]) {r bi br : Nat} (ht : tag = .go r bi br) (hk : ∀ b, KbI K0 bi br b → b < w.heap.size ∧ ¬ isG C b ∧ ¬ E.J b) {f1 : Nat} (hch : GW C P (KbI K0 bi br) j (WBx C P vals (KbI K0 bi br) j) f1 child w)
   {tag' : Mp} {f' : Nat} (hs : MS C P vals Kr K0 Anch F0 tag' (j + 1) f' 0 a' w) (hpv : tag'.pv = none0) (hop : tag'.isOpen) (hpd : tag'.pend = 0) (hw2 : ∀ vs, tag' ≠ .w2 vs) (hlt : tag'.phi v + 40 < tag.phi v) (hal : tag'.al = 0) :
   ∃ M' ops μ', runT P (crowd gs w sl) 0 = (.next M', ops) ∧ Lt3 μ' μ ∧ Invs C P vals Kr K0 Anch F0 E μ' M' (t ++ ops) := by
 have O := I.ok
 have c := I.com
 subst ht
 have hlt' : 0 < gs.size := (Array.getElem?_eq_some_iff.1 I.zero).1
 have hsz := c.size
 have hrun := runT_crowd_spawn (P := P) (sl := sl) (i := 0) I.zero (by simpa using hgo)
 have e0 : MemOp.ofEvents 0 a.frame.fn a.frame.place #[] = #[] := by simp [MemOp.ofEvents]
 rw [e0] at hrun
 obtain ⟨x0, hx0⟩ : ∃ x : MemOp, x = { g := 0, fn := a.frame.fn, pos := a.frame.place, act := .go gs.size } := ⟨_, rfl⟩
 obtain ⟨y0, hy0⟩ : ∃ y : MemOp, y = { g := gs.size, fn := child.frame.fn, pos := a.frame.place, act := .start } := ⟨_, rfl⟩
 rw [← hx0, ← hy0] at hrun
 obtain ⟨ops, hops⟩ : ∃ ops : Trace, ops = #[x0, y0] := ⟨_, rfl⟩
 have hpush : ((#[] : Array MemOp).push x0).push y0 = ops := by rw [hops]; rfl
 rw [hpush] at hrun
 have opm : ∀ op ∈ ops, op = x0 ∨ op = y0 := fun op hop => by rw [hops] at hop; simpa using hop
 have opn : ∀ op ∈ ops, op.act.touch? = none := fun op hop => by rcases opm op hop with rfl | rfl <;> simp [hx0, hy0, MemAct.touch?]
 have opd : ∀ op ∈ ops, op.act ≠ .mark .disable ∧ op.act ≠ .mark .enable := fun op hop => by rcases opm op hop with rfl | rfl <;> simp [hx0, hy0]
 have tapp : ∀ x : Trace, E.t0 ++ (u ++ x) = (E.t0 ++ u) ++ x := fun x => (Array.append_assoc ..).symm
 have deafE : ∀ x, Deaf (E.t0 ++ (u ++ ops)) x = Deaf (E.t0 ++ u) x := fun x => by rw [tapp]; exact Go.ConcN.Deaf_still _ x _ opd
 obtain ⟨d', hd'⟩ : ∃ d' : WD, d' = ⟨.bx, f1, KbI K0 bi br⟩ := ⟨_, rfl⟩
 obtain ⟨D', hD'⟩ : ∃ D', D' = upd D j d' := ⟨_, rfl⟩
 have Dj : D' j = d' := by rw [hD', upd_same]
 have Dn : ∀ x, x < j → D' x = D x := fun x hx => by rw [hD', upd_ne _ _ (by omega)]
 have hd0 : Deaf (E.t0 ++ u) 0 = 0 := I.sit.2.1
 have hdk : Deaf (E.t0 ++ u) (E.j0 + j + 1) = 0 := c.above _ (by omega)
 have nkb : ∀ x, x < j + 1 → ∀ b, (D' x).kb b → b < w.heap.size ∧ ¬ isG C b ∧ ¬ E.J b ∧ ¬ tag'.pv b := by
   intro x hx b hb
   rw [hpv]
   rcases Nat.lt_or_ge x j with hlt | hge
   · rw [Dn x hlt] at hb
     have := c.kbs x hlt b hb
     exact ⟨this.1, this.2.1, this.2.2.1, id⟩
   · obtain rfl : x = j := by omega
     rw [Dj, hd'] at hb
     have := hk b hb
     exact ⟨this.1, this.2.1, this.2.2, id⟩
 have sums : ∀ φ : WD → Nat, (sumTo (j + 1) fun x => φ (D' x)) = (sumTo j fun x => φ (D x)) + φ d' := fun φ => by
   show (sumTo j fun x => φ (D' x)) + φ (D' j) = _
   rw [Dj, sumTo_congr fun x hx => by rw [Dn x hx]]
 have S' := fam_apart (kb := fun x b => x < j + 1 ∧ (D' x).kb b) O (fun x b hb => ⟨(nkb x hb.1 b hb.2).2.1, (nkb x hb.1 b hb.2).2.2.1⟩)
 have tr1 : Tr (fam C (fun l => ∃ a : Addr, l = .cell a ∧ E.J a.block) E.j0 fun x b => x < j + 1 ∧ (D' x).kb b) (E.t0 ++ u) (E.j0 + j) := by
   refine c.tr.change rfl rfl (fun _ _ => rfl) (fun k' hk' l hl => ?_) (fun k' hk' l hl => ?_)
   · obtain ⟨x, ad, rfl, rfl, h⟩ := hl
     exact ⟨x, ad, rfl, rfl, h.imp (fun ⟨h1, h2⟩ => ⟨by omega, by rw [Dn x h1]; exact h2⟩) id⟩
   · obtain ⟨x, ad, rfl, rfl, h⟩ := hl
     exact .inl ⟨x, ad, rfl, rfl, h.imp (fun ⟨h1, h2⟩ => ⟨by omega, by rw [Dn x (by omega)] at h2; exact h2⟩) id⟩
 have com' : Com C P vals E ((gs.setIfInBounds 0 a').push child) w (u ++ ops) (j + 1) D' tag'.pv q m ms v wt sm := by
   have gsz : ((gs.setIfInBounds 0 a').push child).size = gs.size + 1 := by simp
   have gne : ∀ x, x ≠ 0 → x < gs.size → ((gs.setIfInBounds 0 a').push child)[x]? = gs[x]? := fun x hx hl => by
     rw [Array.getElem?_push, if_neg (by simp; omega), Array.getElem?_setIfInBounds_ne (Ne.symm hx)]
   refine ⟨by rw [gsz, hsz]; omega, fun x y h1 h2 hx => ?_, fun x hx => ?_, fun x hx hp => ?_, fun x hx hp => ?_, nkb, fun b hb => by rw [hpv] at hb; exact hb.elim, fun x hx => ?_, c.mu, c.wg, c.gg, c.hh, c.frame, c.hsize, c.os, c.out,
     ?_, Suf.app ⟨c.suf.atom, c.suf.norel⟩ (fun op hop x hx => by rw [opn op hop] at hx; cases hx) (fun op hop e => ?_), fun op hop => ?_, fun op hop => ?_, c.fresh, fun x h1 h2 => c.zero x (by omega) h2, c.past0, c.shp⟩
   · rw [gne x (by omega) (by omega)] at hx
     rw [deafE]
     exact c.old x y h1 h2 hx
   · rcases Nat.lt_or_ge x j with hlt | hge
     · obtain ⟨y, hy, hws⟩ := c.wk x hlt
       exact ⟨y, by rw [gne _ (by omega) (by omega)]; exact hy, by rw [Dn x hlt, deafE]; exact hws⟩
     · obtain rfl : x = j := by omega
       refine ⟨child, by rw [Array.getElem?_push, if_pos (by simp; omega)], ?_⟩
       rw [Dj, deafE, show E.j0 + 1 + x = E.j0 + x + 1 by omega, hdk, hd']
       exact ⟨rfl, hch⟩
   · rcases Nat.lt_or_ge x j with hlt | hge
     · rw [Dn x hlt] at hp; exact c.has x hlt hp
     · obtain rfl : x = j := by omega
       rw [Dj, hd'] at hp
       exact hp.elim
   · rcases Nat.lt_or_ge x j with hlt | hge
     · rw [Dn x hlt] at hp
       obtain ⟨r, hr⟩ := c.rel x hlt hp
       refine ⟨r, ?_⟩
       rw [tapp]
       refine Go.ConcN.RelBy.appNot hr fun op hop => ?_
       rcases opm op hop with rfl | rfl
       · rw [hx0]; show 0 ≠ E.j0 + 1 + x; omega
       · rw [hy0]; show gs.size ≠ E.j0 + 1 + x; omega
     · obtain rfl : x = j := by omega
       rw [Dj, hd'] at hp
       exact hp.elim
   · rw [deafE]
     exact c.above x (by rw [gsz] at hx; omega)
   · rw [tapp, hops]
     exact tr1.fork S' ⟨by rw [hx0], by rw [hx0, hsz]; show MemAct.go (E.j0 + 1 + j) = MemAct.go (E.j0 + j + 1); rw [show E.j0 + 1 + j = E.j0 + j + 1 by omega]⟩ ⟨by rw [hy0]; show gs.size = E.j0 + j + 1; omega, by rw [hy0]⟩ hd0 hdk
   · rcases opm op hop with rfl | rfl <;> simp [hx0, hy0] at e
   · rw [tapp] at hop
     rcases Array.mem_append.1 hop with h | h
     · exact c.low op h
     · rcases opm op h with rfl | rfl
       · rw [hx0]; trivial
       · rw [hy0]; trivial
   · rcases Array.mem_append.1 hop with h | h
     · rcases c.who op h with h1 | h1 | ⟨i, h1, h2⟩
       · exact .inl h1
       · exact .inr (.inl h1)
       · exact .inr (.inr ⟨i, by omega, h2⟩)
     · exact .inr (.inl (opn op h))
 have hth : AInv (j + 1) (fun x => (D' x).p.th) m ms := I.mu.push (fun x hx => by rw [Dn x hx]) (by show (D' j).p.th = _; rw [Dj, hd']; rfl)
 have hWD : WInv (j + 1) (fun x => (D' x).p) tag' v wt sm := by
   have h := I.wg.opn trivial
   have e1 : (sumTo (j + 1) fun i => (D' i).p.cnt) = (sumTo j fun i => (D i).p.cnt) + 1 := by have := sums fun d => d.p.cnt; rw [hd'] at this; exact this
   have e2 : (sumTo (j + 1) fun i => (D' i).p.d23) = (sumTo j fun i => (D i).p.d23) + 0 := by have := sums fun d => d.p.d23; rw [hd'] at this; exact this
   have e3 : (sumTo (j + 1) fun i => (D' i).p.e4) = (sumTo j fun i => (D i).p.e4) + 0 := by have := sums fun d => d.p.e4; rw [hd'] at this; exact this
   have hv : v = (sumTo j fun i => (D i).p.cnt) + 1 := h.1
   have h2 : (sumTo j fun i => (D i).p.d23) = 0 := h.2.2.2.1
   have h3 : (sumTo j fun i => (D i).p.e4) = 0 := h.2.2.2.2
   refine ⟨fun _ => ⟨(by show v = (sumTo (j + 1) fun i => (D' i).p.cnt) + tag'.pend; rw [hpd, e1]; omega), h.2.1, h.2.2.1, (by show (sumTo (j + 1) fun i => (D' i).p.d23) = 0; rw [e2]; omega), (by show (sumTo (j + 1) fun i => (D' i).p.e4) = 0; rw [e3]; omega)⟩, fun h3 => ?_, fun hf => ?_, fun vs e => absurd e (hw2 vs), fun _ => h.2.2.1⟩
   · cases tag' <;> first | exact h3.elim | exact hop.elim
   · cases tag' <;> first | exact hf.elim | exact hop.elim
 refine ⟨_, ops, msr E.j0 (j + 1) D' tag' f' q C.n m ms v, hrun, ?_, (gs.setIfInBounds 0 a').push child, w, sl, u ++ ops, j + 1, D', tag', f', q, m, ms, v, wt, sm, a', ?_⟩
 · rw [I.isμ]
   have e1 : (sumTo (j + 1) fun i => (D' i).p.wt) = (sumTo j fun i => (D i).p.wt) + 40 := by have := sums fun d => d.p.wt; rw [hd'] at this; exact this
   unfold msr Lt3
   exact Prod.Lex.left _ _ (by omega)
 · refine ⟨O, rfl, by rw [I.isT, tapp], ?_, by rw [deafE, hd0]; exact hs, com', hth, hWD, fun x hx hT => ?_, (by have e1 : (sumTo (j + 1) fun i => (D' i).p.al) = (sumTo j fun i => (D i).p.al) + 0 := (by have := sums fun d => d.p.al; rw [hd'] at this; exact this); have h2 : w.heap.size = E.w0.heap.size + 2 * j + 2 + sumTo j fun i => (D i).p.al := I.cnt; rw [e1, hal]; omega), rfl⟩
   · rw [Array.getElem?_push, if_neg (by simp; omega)]
     exact Array.getElem?_setIfInBounds_self_of_lt hlt'
   · obtain ⟨T, hT⟩ := hT
     rcases Nat.lt_or_ge x j with hlt | hge
     · rw [Dn x hlt] at hT; exact I.blk x hlt ⟨T, hT⟩
     · obtain rfl : x = j := by omega
       rw [Dj, hd'] at hT
       cases hT
end
end Go.Proofs.Ytcoppnbjpncdcaa.Q
end
section
set_option linter.unusedVariables false
set_option linter.unusedSimpArgs false
namespace Go.Proofs.Ytcoppnbjpncdcaa.Q
open Go Go.Conc
open Go.ConcR (KK WgAt wgBlock stA smA rd wr mk deafBehind_cons deafBehind_one)
open Go.ConcM (OsLater)
open Go.ConcN (sumTo upd sumTo_upd upd_ne upd_same le_sumTo sumTo_congr RelBy)
theorem goes_cases {P : Program} {main : Bool} {R : World → World → Prop} {D : World → World → Array Event → Prop} {S : Goroutine → World → Prop} {f : Nat} {g : Goroutine} {w : World} (hr : R w w) (h : Goes P main R D S f g w) :
   (∀ w₁, R w w₁ → S g w₁) ∨ ∃ f' g' w' es, f = f' + 1 ∧ stepG P main g w = .go g' w' es ∧ D w w' es ∧ Goes P main R D S f' g' w' := by
 cases f with
 | zero => exact .inl h
 | succ f =>
   rcases h with h | ⟨_, h⟩
   · exact .inl h
   · have := h w hr
     cases hgo : stepG P main g w with
     | go g' w' es => rw [hgo] at this; exact .inr ⟨f, g', w', es, rfl, rfl, this.1, this.2⟩
     | _ => rw [hgo] at this; exact this.elim
section
variable {C : Cfg}
theorem touch_cell (a : Addr) (wr sy : Bool) {x : Touch} (h : (MemAct.ofEvent ⟨.cell a, wr, sy⟩).touch? = some x) : x.loc = .cell a ∧ x.write = wr ∧ x.kind = (if sy then .atomic else .plain) := by
 rw [Go.ConcR.ofEvent_cell] at h
 simp only [MemAct.touch?, Option.some.injEq] at h
 subst h
 cases sy <;> exact ⟨rfl, rfl, rfl⟩
theorem low_cell (a : Addr) (wr sy : Bool) {N : Nat} (h : a.block < N) : (MemAct.ofEvent ⟨.cell a, wr, sy⟩).low N := by
 rw [Go.ConcR.ofEvent_cell]; exact h
theorem evK_wk {Kb kb : Nat → Prop} {i N : Nat} {e : Event} (h : EvK C Kb i N e) (hk : ∀ b, Kb b → kb b) : EvWk C kb i N e := by
 obtain ⟨a, wr, rfl, hl, ho⟩ := h
 refine ⟨fun x hx => ?_, by simp, low_cell a wr false hl⟩
 obtain ⟨h1, h2, h3⟩ := touch_cell a wr false hx
 simp only [Bool.false_eq_true, if_false] at h3
 rcases ho with ho | ⟨hw, ho⟩
 · exact .inr (.inl ⟨⟨a, h1, ho⟩, by rw [h3]; simp⟩)
 · exact .inr (.inr ⟨⟨a, h1, ho.imp (hk _) id⟩, h2.trans hw, by rw [h3]; simp⟩)
theorem evK_still {Kb : Nat → Prop} {i N : Nat} {es : Array Event} (h : ∀ e ∈ es, EvK C Kb i N e) (d : Nat) : deafBehind d es = d :=
 deafBehind_still (fun e he => by obtain ⟨a, wr, rfl, _⟩ := h e he; simp) d
theorem evAtom {kb : Nat → Prop} {i N : Nat} {a : Addr} (wr : Bool) (h : Shr C (.cell a)) (hl : a.block < N) : EvWk C kb i N ⟨.cell a, wr, true⟩ := by
 refine ⟨fun x hx => ?_, by simp, low_cell a wr true hl⟩
 obtain ⟨h1, h2, h3⟩ := touch_cell a wr true hx
 simp only [if_true] at h3
 exact .inl ⟨by rw [h1]; exact h, by rw [h3]; simp, by rw [h3]; simp⟩
theorem evMark {kb : Nat → Prop} {i N : Nat} (m : Mark) (h1 : (MemAct.ofEvent (mk m)).touch? = none) (h2 : m ≠ .release (stA C.Wg)) (h3 : (MemAct.ofEvent (mk m)).low N) : EvWk C kb i N (mk m) :=
 ⟨fun x hx => (by rw [h1] at hx; cases hx), fun e => h2 (by simpa [mk] using e), h3⟩
theorem evSem {kb : Nat → Prop} {i N : Nat} {a : Addr} (h : Shr C (.cell a)) (hl : a.block < N) : ∀ e ∈ semEvents a, EvWk C kb i N e := by
 intro e he
 simp [semEvents] at he
 rcases he with rfl | rfl | rfl | rfl
 · exact evMark .disable rfl (by simp) trivial
 · exact evAtom _ h hl
 · exact evAtom _ h hl
 · exact evMark .enable rfl (by simp) trivial
theorem deaf_sem (a : Addr) (d : Nat) : deafBehind d (semEvents a) = d := by
 simp [semEvents, deafBehind]
theorem deaf_dis (d : Nat) : deafBehind d #[mk .disable] = d + 1 := by simp [deafBehind, mk]
theorem deaf_en (d : Nat) : deafBehind d #[mk .enable] = d - 1 := by simp [deafBehind, mk]
theorem deaf_oth (d : Nat) {m : Mark} (h1 : m ≠ .disable) (h2 : m ≠ .enable) : deafBehind d #[mk m] = d := deafBehind_still (fun e he => by rw [Array.mem_singleton] at he; subst he; simp [mk, h1, h2]) d
theorem deaf_cells {es : Array Event} (h : ∀ e ∈ es, ∃ a x, e = ⟨.cell a, x, true⟩) (d : Nat) : deafBehind d es = d :=
 deafBehind_still (fun e he => by obtain ⟨a, x, rfl⟩ := h e he; simp) d
theorem ev_deaf {T T' : Th} {m m' : Mx} {ms ms' : Nat} {es : Array Event} (hv : Mv T m ms T' m' ms') (h : EvLock C T es) : deafBehind (thDeaf T.pc) es = thDeaf T'.pc := by
 have cells : ∀ {es : Array Event}, (∀ e ∈ es, ∃ x, e = ⟨.cell (muA C), x, true⟩) → ∀ d, deafBehind d es = d := fun h d => deaf_cells (fun e he => let ⟨x, hx⟩ := h e he; ⟨_, x, hx⟩) d
 have hhd : ∀ T : Th, thDeaf (hd T).pc = 1 := fun T => by rcases hd_or T with ⟨_, _, e⟩ | ⟨_, e⟩ <;> rw [e] <;> rfl
 have huh : ∀ o : Mx, thDeaf (uh o).pc = 1 := fun o => by rcases uh_or o with ⟨_, e⟩ | ⟨_, e⟩ <;> rw [e] <;> rfl
 cases hv <;> simp only [EvLock, *] at h <;> (try simp only [*]) <;> first
   | (subst h; first | (rw [deaf_dis]; rfl) | (rw [deaf_en]; rfl) | (rw [deaf_sem]; rfl) | (rw [deaf_oth _ (by simp) (by simp)]; rfl))
   | (rw [cells h]; rfl)
   | (rw [cells h, hhd]; rfl)
   | (rw [cells h, huh]; rfl)
theorem ev_lock {kb : Nat → Prop} {i N : Nat} {T : Th} {es : Array Event} (h : EvLock C T es) (hF : C.F < N) : ∀ e ∈ es, EvWk C kb i N e := by
 have s1 : Shr C (.cell (muA C)) := .inl rfl
 have s2 : Shr C (.cell (msA C)) := .inr (.inl rfl)
 intro e he
 unfold EvLock at h
 split at h
 · subst h; rw [Array.mem_singleton] at he; subst he; exact evMark .disable rfl (by simp) trivial
 · subst h; rw [Array.mem_singleton] at he; subst he; exact evMark .disable rfl (by simp) trivial
 · subst h; rw [Array.mem_singleton] at he; subst he; exact evMark .enable rfl (by simp) trivial
 · subst h; rw [Array.mem_singleton] at he; subst he; exact evMark .enable rfl (by simp) trivial
 · subst h; rw [Array.mem_singleton] at he; subst he; exact evMark (.acquire (muA C)) rfl (by simp) hF
 · subst h; rw [Array.mem_singleton] at he; subst he; exact evMark (.releaseMerge (muA C)) rfl (by simp) hF
 · subst h; exact evSem s2 hF e he
 · subst h; exact evSem s2 hF e he
 · obtain ⟨x, rfl⟩ := h e he
   exact evAtom x s1 hF
end
theorem mv_out {T T' : Th} {m m' : Mx} {ms ms' : Nat} (h : Mv T m ms T' m' ms') (e : T'.pc = .out) : T = at_ .ue := by
 have h1 := hd_or
 have h2 := uh_or
 cases h
 case ue => rfl
 all_goals first
   | (simp at e; done)
   | (exfalso; revert e; first
       | (rcases hd_or _ with ⟨_, _, q⟩ | ⟨_, q⟩ <;> rw [q] <;> simp)
       | (rcases uh_or _ with ⟨_, q⟩ | ⟨_, q⟩ <;> rw [q] <;> simp))
theorem mv_ms {T T' : Th} {m m' : Mx} {ms ms' : Nat} (h : Mv T m ms T' m' ms') : ms' ≤ ms ∨ T = at_ .us := by
 cases h <;> first | exact .inl (Nat.le_refl _) | exact .inl (Nat.le_succ _) | exact .inr rfl
section
variable {C : Cfg} {P : Program} {vals : Nat → Value × Value × Value} {Kr K0 : Nat → Prop} {Anch F0 : Goroutine → World → Prop} {E : Env}
theorem mem_extract' {α : Type} {xs : Array α} {j : Nat} {x : α} (h : x ∈ xs.extract 0 j) : x ∈ xs := by
 obtain ⟨l⟩ := xs
 simp only [List.extract_toArray, List.mem_toArray, List.extract_eq_take_drop, List.drop_zero] at h ⊢
 exact List.mem_of_mem_take h
theorem deaf_pre {es : Array Event} (h : ∀ e ∈ es, e.loc ≠ .mark .disable ∧ e.loc ≠ .mark .enable) : ∀ jx e, es[jx]? = some e → (MemAct.ofEvent e).touch? = none ∨ 0 < deafBehind 1 (es.extract 0 jx) :=
 fun jx e _ => .inr (by rw [deafBehind_still (fun x hx => h x (mem_extract' hx))]; exact Nat.one_pos)
theorem deaf_pre_sem (ad : Addr) : ∀ jx e, (semEvents ad)[jx]? = some e → (MemAct.ofEvent e).touch? = none ∨ 0 < deafBehind 1 ((semEvents ad).extract 0 jx) := by
 intro jx e he
 rcases jx with _ | _ | _ | _ | jx
 · exact .inr (by simp [deafBehind])
 · exact .inr (by simp [semEvents, deafBehind])
 · exact .inr (by simp [semEvents, deafBehind])
 · exact .inr (by simp [semEvents, deafBehind])
 · simp [semEvents] at he
theorem fits_of {μ : M3} {M : Machine} {t : Trace} {gs : Array Goroutine} {w : World} {sl : Option (Nat × Nat)} {u : Trace} {j : Nat} {D : Nat → WD} {tag : Mp} {f0 : Nat} {q : Nat → Nat} {m : Mx} {ms v wt sm : Nat} {a : Goroutine}
   (I : PInv C P vals Kr K0 Anch F0 E μ M t gs w sl u j D tag f0 q m ms v wt sm a) {i : Nat} (hi : i < j) {T : Th} (hT : (D i).p.th = T) : Fits T m ms := by
 subst hT
 have A := I.mu
 have hc := A.cLe
 have hn := I.sit.1
 have h9 := I.ok.n9
 exact ⟨A.ok, A.wf i hi, by omega, A.msLe, fun h => A.holds hi (by show hold (D i).p.th = 1; unfold hold; rw [h]), fun h hs => A.atR2 hi h hs, fun h => A.atA1 hi h, fun h => A.atUs hi h, fun h1 h2 => A.awk hi h1 h2, fun h1 h2 => A.r2k hi h1 h2⟩
structure WPure (tag : Mp) (v wt sm c d e : Nat) : Prop where
 opn : tag.isOpen → v = c + tag.pend ∧ wt = 0 ∧ sm = 0 ∧ d = 0 ∧ e = 0
 w3 : tag.isW3 → v = c ∧ ((1 ≤ v ∧ wt = 1 ∧ sm = 0 ∧ d = 0 ∧ e = 0) ∨ (v = 0 ∧ wt = 1 ∧ sm = 0 ∧ d = 1 ∧ e = 0) ∨ (v = 0 ∧ wt = 0 ∧ sm = 0 ∧ d = 0 ∧ e = 1) ∨ (v = 0 ∧ wt = 0 ∧ sm = 1 ∧ d = 0 ∧ e = 0))
 fin : tag.isFin → v = 0 ∧ wt = 0 ∧ sm = 0 ∧ c = 0 ∧ d = 0 ∧ e = 0
 seen : ∀ vs, tag = .w2 vs → v ≤ vs ∧ 1 ≤ vs
 blk : tag = .b3 → sm = 0
theorem WInv.pure {j : Nat} {D : Nat → Wp} {tag : Mp} {v wt sm : Nat} (h : WInv j D tag v wt sm) : WPure tag v wt sm (sumTo j fun i => (D i).cnt) (sumTo j fun i => (D i).d23) (sumTo j fun i => (D i).e4) := ⟨h.opn, h.w3, h.fin, h.seen, h.blk⟩
theorem WPure.inv {j : Nat} {D : Nat → Wp} {tag : Mp} {v wt sm : Nat} (h : WPure tag v wt sm (sumTo j fun i => (D i).cnt) (sumTo j fun i => (D i).d23) (sumTo j fun i => (D i).e4)) : WInv j D tag v wt sm := ⟨h.opn, h.w3, h.fin, h.seen, h.blk⟩
theorem WInv.upd {j : Nat} {D : Nat → Wp} {tag tag' : Mp} {v wt sm v' wt' sm' : Nat} (h : WInv j D tag v wt sm) {i : Nat} (hi : i < j) (p : Wp)
   (hp : ∀ c d e c' d' e', WPure tag v wt sm c d e → (D i).cnt ≤ c → (D i).d23 ≤ d → (D i).e4 ≤ e → c' + (D i).cnt = c + p.cnt → d' + (D i).d23 = d + p.d23 → e' + (D i).e4 = e + p.e4 → WPure tag' v' wt' sm' c' d' e') : WInv j (Go.ConcN.upd D i p) tag' v' wt' sm' :=
 WPure.inv (hp _ _ _ _ _ _ h.pure (le_sumTo (f := fun x => (D x).cnt) hi) (le_sumTo (f := fun x => (D x).d23) hi) (le_sumTo (f := fun x => (D x).e4) hi) (sumTo_upd D p Wp.cnt hi) (sumTo_upd D p Wp.d23 hi) (sumTo_upd D p Wp.e4 hi))
set_option maxHeartbeats 8000000 in
theorem stepWorker {μ : M3} {M : Machine} {t : Trace} {gs : Array Goroutine} {w : World} {sl : Option (Nat × Nat)} {u : Trace} {j : Nat} {D : Nat → WD} {tag : Mp} {f0 : Nat} {q : Nat → Nat} {m : Mx} {ms v wt sm : Nat} {a : Goroutine}
   (I : PInv C P vals Kr K0 Anch F0 E μ M t gs w sl u j D tag f0 q m ms v wt sm a) {i : Nat} (hi : i < j) {g : Goroutine} (hg : gs[E.j0 + 1 + i]? = some g) (hrun : g.status = .running) :
   ∃ M' ops μ', runT P (crowd gs w sl) (E.j0 + 1 + i) = (.next M', ops) ∧ Lt3 μ' μ ∧ Invs C P vals Kr K0 Anch F0 E μ' M' (t ++ ops) := by
 have O := I.ok
 have A := O.apart
 have c := I.com
 obtain ⟨g₁, hg₁, hs⟩ := c.wk i hi
 obtain rfl : g = g₁ := by rw [hg] at hg₁; exact Option.some.inj hg₁
 have hkb := c.kbs i hi
 have live : Live C w := ⟨⟨m, ms, c.mu⟩, ⟨_, _, c.wg⟩, c.gg, c.hh⟩
 have FN : C.F < w.heap.size := Nat.lt_of_lt_of_le (O.new _ (.inl rfl)).1 c.hsize
 have WN : C.Wg < w.heap.size := Nat.lt_of_lt_of_le (O.new _ (.inr (.inr (.inr rfl)))).1 c.hsize
 have hMu : ∀ {p : Wp}, p.th = (D i).p.th → AInv j (upd (fun x => (D x).p.th) i p.th) m ms := by
   intro p e
   have : upd (fun x => (D x).p.th) i p.th = fun x => (D x).p.th := by
     funext x
     by_cases h : x = i
     · subst h; rw [upd_same, e]
     · rw [upd_ne _ _ h]
   rw [this]; exact I.mu
 have hW0 : ∀ {p : Wp} (b : Bool), p.cnt = (D i).p.cnt → p.d23 = (D i).p.d23 → p.e4 = (D i).p.e4 → WInv j (upd (fun x => (D x).p) i p) (wakeM b tag) v wt sm := by
   intro p b e1 e2 e3
   have key : ∀ φ : Wp → Nat, φ p = φ (D i).p → ∀ x, x < j → φ (upd (fun x => (D x).p) i p x) = φ (D x).p := by
     intro φ e x _
     by_cases h : x = i
     · subst h; rw [upd_same, e]
     · rw [upd_ne _ _ h]
   exact (I.wg.congr (key Wp.cnt e1) (key Wp.d23 e2) (key Wp.e4 e3)).wakeM b
 generalize hd : Deaf (E.t0 ++ u) (E.j0 + 1 + i) = dd at hs
 have idleK : ∀ {g' : Goroutine} {w' : World} {es : Array Event} {f' : Nat}, stepG P false g w = .go g' w' es → Dk C (D i).kb i w w' es → ¬ (D i).p.past → ¬ (D i).p.said → (∀ T, (D i).p ≠ .bk T) → WS C P vals i ⟨(D i).p, f', (D i).kb⟩ dd g' w' → (D i).f = f' + 1 →
     ∃ M' ops μ', runT P (crowd gs w sl) (E.j0 + 1 + i) = (.next M', ops) ∧ Lt3 μ' μ ∧ Invs C P vals Kr K0 Anch F0 E μ' M' (t ++ ops) := by
   intro g' w' es f' hgo hD hp hsd hbk hws hf
   obtain ⟨hwr, hes⟩ := hD
   have l' := hwr.live live
   refine stepW I hi hg hgo (d' := ⟨(D i).p, f', (D i).kb⟩) (Eff.wr hwr) ((hwr.block _ A.fg A.fh).trans c.mu) ((hwr.block _ (Ne.symm A.gw) (Ne.symm A.hw)).trans c.wg) l'.gg l'.hh ?_ (fun h => absurd h hp) (fun h => absurd h hsd) (fun b h => .inl h) (fun b h => h) (fun e he => evK_wk (hes e he) fun b h => h)
     (hMu rfl) (hW0 _ rfl rfl rfl) (.inl (Nat.le_refl _)) (fun ⟨T, hT⟩ => absurd hT (hbk T)) (by rw [hwr.size]) (.inr ⟨rfl, rfl, .inr ⟨rfl, .inl (by show f' < (D i).f; omega)⟩⟩)
   rw [hd, evK_still hes]
   exact hws
 have book : ∀ {g' : Goroutine} {w' : World} {es : Array Event} {d' : WD} {v' wt' sm' : Nat}, stepG P false g w = .go g' w' es → (D i).p.said → d'.p.said → d'.p.th = at_ .out → (D i).p.th = at_ .out → d'.kb = (D i).kb → Eff C (· = i) (isG C) w w' → (∀ b : Nat, isG C b → b ≠ C.Wg → w'.heap[b]? = w.heap[b]?) → w'.heap.size = w.heap.size →
     WgAt C.tW C.Wg w' ((v' : Int) * KK + (wt' : Int)) (sm' : Int) → (∀ e ∈ es, Go.ConcR.Bk C.Wg e ∧ EvWk C (D i).kb i w.heap.size e) → (∀ jx e, es[jx]? = some e → (MemAct.ofEvent e).touch? = none ∨ 0 < deafBehind dd (es.extract 0 jx)) → WS C P vals i d' (deafBehind dd es) g' w' →
     WInv j (upd (fun x => (D x).p) i d'.p) (wakeM (wakes P g g') tag) v' wt' sm' → (d'.p.wt + tag.phi v' < (D i).p.wt + tag.phi v ∨ (d'.p.wt + tag.phi v' = (D i).p.wt + tag.phi v ∧ d'.p.rk m = (D i).p.rk m ∧ d'.f < (D i).f)) →
     ∃ M' ops μ', runT P (crowd gs w sl) (E.j0 + 1 + i) = (.next M', ops) ∧ Lt3 μ' μ ∧ Invs C P vals Kr K0 Anch F0 E μ' M' (t ++ ops) := by
   intro g' w' es d' v' wt' sm' hgo hsd hsd' hth hth' hkb' hE hkeep hsize hwg hes hdf hws hW hlt
   have past_of : ∀ {p : Wp}, p.said → p.past := fun {p} h => by cases p <;> first | trivial | exact h.elim
   have nobk : ∀ {p : Wp}, p.said → ∀ T, p ≠ .bk T := fun {p} h T e => by subst e; exact h.elim
   obtain ⟨h1, h2, h3⟩ := c.has i hi (past_of hsd)
   have blkG : w'.heap[C.G]? = w.heap[C.G]? := hkeep _ (.inr (.inl rfl)) A.gw
   have blkH : w'.heap[C.H]? = w.heap[C.H]? := hkeep _ (.inr (.inr (.inl rfl))) A.hw
   refine stepW I hi hg hgo (d' := d') (m' := m) (ms' := ms) hE ((hkeep _ (.inl rfl) A.fw).trans c.mu) hwg (let ⟨cs, q1, q2⟩ := c.gg; ⟨cs, blkG.trans q1, q2⟩) (let ⟨cs, q1, q2⟩ := c.hh; ⟨cs, blkH.trans q1, q2⟩) (by rw [hd]; exact hws)
     (fun _ => ⟨(cell_of_block' blkG).trans h1, (cell_of_block' blkG).trans h2, (cell_of_block' blkH).trans h3⟩) (fun _ => ?_) (fun b h => .inl (hkb' ▸ h)) (fun b h => hkb' ▸ h) (fun e he => by rw [hkb', hsize]; exact (hes e he).2)
     (hMu (hth.trans hth'.symm)) hW (.inl (Nat.le_refl _)) (fun ⟨T, hT⟩ => absurd hT (nobk hsd' T)) (by have h1 : ∀ {p : Wp}, p.said → p.al = 1 := fun {p} h => (by cases p <;> first | rfl | exact h.elim); rw [hsize, h1 hsd, h1 hsd']) ?_
   · obtain ⟨r, hr⟩ := c.rel i hi hsd
     refine ⟨r, ?_⟩
     rw [← Array.append_assoc]
     exact Go.ConcN.RelBy.book hr hd _ _ (fun e he => (hes e he).1) hdf
   · rcases hlt with h | ⟨h1, h2, h3⟩
     · exact .inl (by omega)
     · exact .inr ⟨by omega, rfl, .inr ⟨h2, .inl h3⟩⟩
 have idle0 : ∀ {g' : Goroutine} {w' : World} {es : Array Event} {f' : Nat}, stepG P false g w = .go g' w' es → D0 w w' es → (D i).p.said → (D i).p.th = at_ .out → WS C P vals i ⟨(D i).p, f', (D i).kb⟩ dd g' w' → (D i).f = f' + 1 →
     ∃ M' ops μ', runT P (crowd gs w sl) (E.j0 + 1 + i) = (.next M', ops) ∧ Lt3 μ' μ ∧ Invs C P vals Kr K0 Anch F0 E μ' M' (t ++ ops) := by
   intro g' w' es f' hgo hD hsd hth hws hf
   obtain ⟨rfl, rfl⟩ := hD
   exact book (d' := ⟨(D i).p, f', (D i).kb⟩) hgo hsd hsd hth hth rfl (Eff.refl _) (fun _ _ _ => rfl) rfl c.wg (by simp) (by simp) hws (hW0 _ rfl rfl rfl) (.inr ⟨rfl, rfl, by show f' < (D i).f; omega⟩)
 have shW0 : Shr C (.cell (stA C.Wg)) := .inr (.inr (.inl rfl))
 have shW1 : Shr C (.cell (smA C.Wg)) := .inr (.inr (.inr rfl))
 have e1 : ∀ p : Wp, (sumTo j fun x => (upd (fun x => (D x).p) i p x).cnt) + (D i).p.cnt = (sumTo j fun x => (D x).p.cnt) + p.cnt := fun p => sumTo_upd (fun x => (D x).p) p Wp.cnt hi
 have e2 : ∀ p : Wp, (sumTo j fun x => (upd (fun x => (D x).p) i p x).d23) + (D i).p.d23 = (sumTo j fun x => (D x).p.d23) + p.d23 := fun p => sumTo_upd (fun x => (D x).p) p Wp.d23 hi
 have e3 : ∀ p : Wp, (sumTo j fun x => (upd (fun x => (D x).p) i p x).e4) + (D i).p.e4 = (sumTo j fun x => (D x).p.e4) + p.e4 := fun p => sumTo_upd (fun x => (D x).p) p Wp.e4 hi
 have b1 : (D i).p.cnt ≤ sumTo j fun x => (D x).p.cnt := le_sumTo (f := fun x => (D x).p.cnt) hi
 have b2 : (D i).p.d23 ≤ sumTo j fun x => (D x).p.d23 := le_sumTo (f := fun x => (D x).p.d23) hi
 have b3 : (D i).p.e4 ≤ sumTo j fun x => (D x).p.e4 := le_sumTo (f := fun x => (D x).p.e4) hi
 have wg := I.wg
 have kinds : tag.isOpen ∨ tag.isW3 ∨ tag.isFin := by cases tag <;> simp [Mp.isOpen, Mp.isW3, Mp.isFin]
 have hWgSt : ∀ (off : Nat) (val : Value) (b : Nat), isG C b → b ≠ C.Wg → (w.setCell ⟨C.Wg, off, none⟩ val).heap[b]? = w.heap[b]? := fun off val b _ hne => heap_set w _ val b hne
 have hWgSz : ∀ (off : Nat) (val : Value), (w.setCell ⟨C.Wg, off, none⟩ val).heap.size = w.heap.size := fun off val => by simp [World.setCell]
 unfold WS at hs
 cases hp : (D i).p with
 | bx =>
   rw [hp] at hs
   obtain ⟨hdd, hs⟩ := hs
   rcases goes_cases (Ry.refl w) hs with hst | ⟨f', g', w', es, hf, hgo, hD, hgs⟩
   · obtain ⟨_, g', f, ob, hcl, hgo, hn⟩ := hst w (Ry.refl w)
     have key : ∀ b : Nat, b < w.heap.size → (w.heap.push ob)[b]? = w.heap[b]? := fun b hb => by rw [Array.getElem?_push, if_neg (by omega)]
     have GN : C.G < w.heap.size := Nat.lt_of_lt_of_le (O.new _ (.inr (.inl rfl))).1 c.hsize
     have HN : C.H < w.heap.size := Nat.lt_of_lt_of_le (O.new _ (.inr (.inr (.inl rfl)))).1 c.hsize
     refine stepW I hi hg hgo (d' := ⟨.mu (at_ .ld), f, fun b => (D i).kb b ∨ b = w.heap.size⟩) (m' := m) (ms' := ms) (v' := v) (wt' := wt) (sm' := sm) (Eff.push w ob hcl GN HN) ((key _ FN).trans c.mu) ((key _ WN).trans c.wg)
       (let ⟨cs, q1, q2⟩ := c.gg; ⟨cs, (key _ GN).trans q1, q2⟩) (let ⟨cs, q1, q2⟩ := c.hh; ⟨cs, (key _ HN).trans q1, q2⟩) ?_ (fun h => h.elim) (fun h => h.elim) (fun b h => h.imp id fun h => ⟨h, by simp⟩) (fun b h => .inl h) (by simp)
       (hMu (by rw [hp]; rfl)) (hW0 _ (by rw [hp]; rfl) (by rw [hp]; rfl) (by rw [hp]; rfl)) (.inl (Nat.le_refl _)) (fun ⟨T, hT⟩ => by cases hT) (by rw [hp, Array.size_push]; rfl) (.inl (by rw [hp]; show 10 + 9 + 2 * ms + tag.phi v < 40 + 2 * ms + tag.phi v; omega))
     rw [hd]
     exact ⟨hdd, by simp, hn⟩
   · exact idleK hgo hD (by rw [hp]; exact id) (by rw [hp]; exact id) (by rw [hp]; simp) (by rw [hp]; exact ⟨hdd, hgs⟩) hf
 | mu T =>
   rw [hp] at hs
   obtain ⟨hdd, hout, hs⟩ := hs
   rcases goes_cases (Ry.refl w) hs with hst | ⟨f', g', w', es, hf, hgo, hD, hgs⟩
   · have hS := AtS.unfold (hst w (Ry.refl w))
     have hF : Fits T m ms := fits_of I hi (by rw [hp]; rfl)
     obtain ⟨_, hoff, hmw, hS⟩ := hS
     obtain ⟨hblk, hgo⟩ := hS m ms c.mu hF
     by_cases hb : T.pc = .s1 ∧ ms = 0
     · have hgo := hblk hb.1 hb.2
       refine stepW I hi hg hgo (d' := ⟨.bk T, (D i).f, (D i).kb⟩) (m' := m) (ms' := ms) (v' := v) (wt' := wt) (sm' := sm) (Eff.refl w) c.mu c.wg c.gg c.hh ?_ (fun h => h.elim) (fun h => h.elim) (fun b h => .inl h) (fun b h => h) (by simp)
         (hMu (by rw [hp]; rfl)) (hW0 _ (by rw [hp]; rfl) (by rw [hp]; rfl) (by rw [hp]; rfl)) (.inl (Nat.le_refl _)) (fun _ => hb.2) (by rw [hp]; rfl) (.inr ⟨by rw [hp]; rfl, rfl, .inr ⟨by rw [hp]; rfl, .inr ⟨rfl, by rw [hp]; exact Nat.one_pos, ?_⟩⟩⟩)
       · rw [hd]
         exact ⟨hdd, hb.1, g, rfl, hrun, hoff, hst⟩
       · simp [wakes]
     · obtain ⟨T', m', ms', g', w', es, hv, hgo, hmu', heff, hev, hfin, hnx⟩ := hgo hb
       have hwg' : w'.heap[C.Wg]? = w.heap[C.Wg]? := heff.block _ (Ne.symm A.fw)
       have hgg' : w'.heap[C.G]? = w.heap[C.G]? := heff.block _ (Ne.symm A.fg)
       have hhh' : w'.heap[C.H]? = w.heap[C.H]? := heff.block _ (Ne.symm A.fh)
       have hdeaf : deafBehind dd es = thDeaf T'.pc := by rw [hdd]; exact ev_deaf hv hev
       have hA' : ∀ p : Wp, p.th = T' ∨ (p.th = at_ .out ∧ T'.pc = .out) → AInv j (upd (fun x => (D x).p.th) i p.th) m' ms' := by
         intro p h
         have h0 := I.mu.step hi (T' := T') (m' := m') (ms' := ms') (by rw [hp]; exact hv)
         rcases h with h | ⟨h, hT'⟩
         · rw [h]; exact h0
         · have : T' = at_ .out := by
             have hu := mv_out hv hT'
             subst hu
             cases hv <;> first | rfl | (simp at hT'; done) | (simp_all; done)
           rw [h, ← this]; exact h0
       have hfall := hv.falls (by have := I.mu.wf i hi; rw [hp] at this; exact this)
       have hms : ms' ≤ ms ∨ wakes P g g' = true := by
         rcases mv_ms hv with h | h
         · exact .inl h
         · right
           have hm := hmw (by rw [h])
           have : T'.pc ≠ .out := fun e => by have := mv_out hv e; rw [h] at this; cases this
           have hr : g'.status = .running := Goes.running (fun _ _ x => WMu.running x) w' (Ry.refl w') (hnx this)
           simp [wakes, hm, hr]
       have common : ∀ d' : WD, d'.p.al = 1 → d'.kb = (D i).kb → ¬ d'.p.past → ¬ d'.p.said → (∀ T, d'.p ≠ .bk T) → d'.p.cnt = 1 → d'.p.d23 = 0 → d'.p.e4 = 0 → (d'.p.th = T' ∨ (d'.p.th = at_ .out ∧ T'.pc = .out)) → WS C P vals i d' (thDeaf T'.pc) g' w' →
           (d'.p.wt + 2 * ms' + tag.phi v < (D i).p.wt + 2 * ms + tag.phi v ∨ (d'.p.wt + 2 * ms' + tag.phi v = (D i).p.wt + 2 * ms + tag.phi v ∧ m' = m ∧ d'.p.rk m < (D i).p.rk m)) →
           ∃ M' ops μ', runT P (crowd gs w sl) (E.j0 + 1 + i) = (.next M', ops) ∧ Lt3 μ' μ ∧ Invs C P vals Kr K0 Anch F0 E μ' M' (t ++ ops) := by
         intro d' hal0 hk hpa hsa hbk hc1 hc2 hc3 hth hws hlt
         refine stepW I hi hg hgo (d' := d') (m' := m') (ms' := ms') (v' := v) (wt' := wt) (sm' := sm) (Eff.lock heff A) hmu' (hwg'.trans c.wg) (let ⟨cs, q1, q2⟩ := c.gg; ⟨cs, hgg'.trans q1, q2⟩) (let ⟨cs, q1, q2⟩ := c.hh; ⟨cs, hhh'.trans q1, q2⟩) (by rw [hd, hdeaf]; exact hws) (fun h => absurd h hpa) (fun h => absurd h hsa) (fun b h => .inl (hk ▸ h)) (fun b h => hk ▸ h)
           (ev_lock hev (by rw [heff.size]; exact FN)) (hA' _ hth) (hW0 _ (by rw [hp]; exact hc1) (by rw [hp]; exact hc2) (by rw [hp]; exact hc3)) hms (fun ⟨T, hT⟩ => absurd hT (hbk T)) (by rw [hp, heff.size, hal0]; rfl) (hlt.imp id fun ⟨h1, h2, h3⟩ => ⟨h1, h2, .inl h3⟩)
       by_cases ho : T'.pc = .out
       · obtain ⟨f, hf⟩ := hfin ho
         refine common ⟨.wr, f, (D i).kb⟩ rfl rfl id id (by simp) rfl rfl rfl (.inr ⟨rfl, ho⟩) ⟨by rw [ho]; rfl, hf⟩ (.inl ?_)
         have hu := mv_out hv ho
         have : ms' = ms := by subst hu; cases hv <;> first | rfl | (simp_all; done)
         rw [hp, this]
         show 8 + _ + _ < 10 + _ + _ + _
         omega
       · refine common ⟨.mu T', 200, (D i).kb⟩ rfl rfl id id (by simp) rfl rfl rfl (.inl rfl) ⟨rfl, ho, hnx ho⟩ ?_
         rw [hp]
         rcases hfall with h | ⟨h1, h2, h3⟩
         · left
           show 10 + wA T' + _ + _ < 10 + wA T + _ + _
           omega
         · right
           refine ⟨?_, h2, h3⟩
           show 10 + wA T' + _ + _ = 10 + wA T + _ + _
           omega
   · exact idleK hgo hD (by rw [hp]; exact id) (by rw [hp]; exact id) (by rw [hp]; simp) (by rw [hp]; exact ⟨hdd, hout, hgs⟩) hf
 | bk T =>
   rw [hp] at hs
   obtain ⟨_, _, g0, e, _⟩ := hs
   rw [e] at hrun
   cases hrun
 | wr =>
   rw [hp] at hs
   obtain ⟨hdd, hs⟩ := hs
   rcases goes_cases (Ry.refl w) hs with hst | ⟨f', g', w', es, hf, hgo, hD, hgs⟩
   · obtain ⟨_, hhas, g', f, hgo, hn⟩ := hst w (Ry.refl w)
     refine stepW I hi hg hgo (d' := ⟨.wk, f, (D i).kb⟩) (m' := m) (ms' := ms) (v' := v) (wt' := wt) (sm' := sm) (Eff.refl w) c.mu c.wg c.gg c.hh ?_ (fun _ => hhas) (fun _ => ?_) (fun b h => .inl h) (fun b h => h)
       (fun e he => by rw [Array.mem_singleton] at he; subst he; exact evMark (.releaseMerge (stA C.Wg)) rfl (by simp) WN) (hMu (by rw [hp]; rfl)) (hW0 _ (by rw [hp]; rfl) (by rw [hp]; rfl) (by rw [hp]; rfl)) (.inl (Nat.le_refl _)) (fun ⟨T, hT⟩ => by cases hT) (by rw [hp]; rfl)
       (.inl (by rw [hp]; show 7 + 2 * ms + tag.phi v < 8 + 2 * ms + tag.phi v; omega))
     · rw [hd, deaf_oth dd (by simp) (by simp)]
       exact ⟨hdd, hn⟩
     · rw [← Array.append_assoc]
       exact ⟨_, Go.ConcN.RelBy.new (hd.trans hdd) _ _⟩
   · exact idleK hgo hD (by rw [hp]; exact id) (by rw [hp]; exact id) (by rw [hp]; simp) (by rw [hp]; exact ⟨hdd, hgs⟩) hf
 | wk =>
   rw [hp] at hs
   obtain ⟨hdd, hs⟩ := hs
   rcases goes_cases (Ry.refl w) hs with hst | ⟨f', g', w', es, hf, hgo, hD, hgs⟩
   · obtain ⟨_, g', f, hgo, hn⟩ := hst w (Ry.refl w)
     refine book (d' := ⟨.d1, f, (D i).kb⟩) (v' := v) (wt' := wt) (sm' := sm) hgo (by rw [hp]; trivial) trivial rfl (by rw [hp]; rfl) rfl (Eff.refl w) (fun _ _ _ => rfl) rfl c.wg (fun e he => ?_) (fun jx e he => .inl ?_) ?_ (hW0 _ (by rw [hp]; rfl) (by rw [hp]; rfl) (by rw [hp]; rfl))
       (.inl (by rw [hp]; show 6 + tag.phi v < 7 + tag.phi v; omega))
     · rw [Array.mem_singleton] at he; subst he; exact ⟨.inl rfl, evMark .disable rfl (by simp) trivial⟩
     · have := Array.mem_of_getElem? he
       rw [Array.mem_singleton] at this; subst this; rfl
     · rw [deaf_dis, hdd]; exact ⟨rfl, hn⟩
   · exact idle0 hgo hD (by rw [hp]; trivial) (by rw [hp]; rfl) (by rw [hp]; exact ⟨hdd, hgs⟩) hf
 | d1 =>
   rw [hp] at hs
   obtain ⟨hdd, hs⟩ := hs
   rcases goes_cases (Ry.refl w) hs with hst | ⟨f', g', w', es, hf, hgo, hD, hgs⟩
   · obtain ⟨_, hS⟩ := hst w (Ry.refl w)
     rw [hp] at b1
     have hc1 : 1 ≤ sumTo j fun x => (D x).p.cnt := b1
     have hvle : v ≤ j + 1 ∧ 1 ≤ v ∧ wt ≤ 1 ∧ sm = 0 ∧ (tag.isOpen → wt = 0) := by
       have hsum : (sumTo j fun x => (D x).p.cnt) ≤ j := sum_le' fun x => by cases (D x).p <;> simp [Wp.cnt]
       have hpend : tag.pend ≤ 1 := by cases tag <;> simp [Mp.pend]
       rcases kinds with h | h | h
       · have := wg.opn h; exact ⟨by omega, by omega, by omega, this.2.2.1, fun _ => this.2.1⟩
       · have := wg.w3 h
         refine ⟨by omega, by omega, by omega, by omega, fun ho => ?_⟩
         cases tag <;> first | exact h.elim | exact ho.elim
       · have := wg.fin h; omega
     obtain ⟨hv1, hv2, hv3, hv4, hv5⟩ := hvle
     have hjn := I.sit.1
     have h9 := O.n9
     obtain ⟨v1, rfl⟩ : ∃ v1, v = v1 + 1 := ⟨v - 1, by omega⟩
     have hWg : WgAt C.tW C.Wg w (((v1 : Int) + 1) * KK + (wt : Int)) 0 := by have := c.wg; rw [hv4] at this; simpa using this
     obtain ⟨g', hgo, hlast, hnot⟩ := hS v1 wt hv3 (by omega) hWg
     have hWg' : WgAt C.tW C.Wg (w.setCell (stA C.Wg) (.int .u64 ((v1 : Int) * KK + (wt : Int)))) ((v1 : Int) * KK + (wt : Int)) ((0 : Nat) : Int) := hWg.setSt _
     have hevs : ∀ e ∈ #[rd (stA C.Wg), wr (stA C.Wg)], Go.ConcR.Bk C.Wg e ∧ EvWk C (D i).kb i w.heap.size e := fun e he => by
       simp only [List.mem_toArray, List.mem_cons, List.not_mem_nil, or_false] at he
       rcases he with rfl | rfl
       · exact ⟨.inr (.inr ⟨_, _, rfl, rfl⟩), evAtom false shW0 WN⟩
       · exact ⟨.inr (.inr ⟨_, _, rfl, rfl⟩), evAtom true shW0 WN⟩
     have hnm : ∀ e ∈ #[rd (stA C.Wg), wr (stA C.Wg)], e.loc ≠ .mark .disable ∧ e.loc ≠ .mark .enable := fun e he => by
       simp only [List.mem_toArray, List.mem_cons, List.not_mem_nil, or_false] at he
       rcases he with rfl | rfl <;> simp [rd, wr]
     have hphi : tag.phi v1 ≤ tag.phi (v1 + 1) := by cases tag <;> simp only [Mp.phi] <;> omega
     have go : ∀ d' : WD, d'.kb = (D i).kb → d'.p.said → d'.p.th = at_ .out → d'.p.wt ≤ 5 → WS C P vals i d' 1 g' (w.setCell (stA C.Wg) (.int .u64 ((v1 : Int) * KK + (wt : Int)))) → WInv j (upd (fun x => (D x).p) i d'.p) tag v1 wt 0 →
         ∃ M' ops μ', runT P (crowd gs w sl) (E.j0 + 1 + i) = (.next M', ops) ∧ Lt3 μ' μ ∧ Invs C P vals Kr K0 Anch F0 E μ' M' (t ++ ops) := fun d' hk hsd hth hwt hws hW =>
       book (d' := d') (v' := v1) (wt' := wt) (sm' := 0) hgo (by rw [hp]; trivial) hsd hth (by rw [hp]; rfl) hk (Eff.wg w 0 _ A) (hWgSt 0 _) (hWgSz 0 _) hWg' hevs (by rw [hdd]; exact deaf_pre hnm) (by rw [hdd, deafBehind_still hnm]; exact hws) (hW.wakeM _)
         (.inl (by rw [hp]; show d'.p.wt + tag.phi v1 < 6 + tag.phi (v1 + 1); omega))
     by_cases hl : v1 = 0 ∧ wt = 1
     · obtain ⟨f, hn⟩ := hlast hl
       refine go ⟨.d2, f, (D i).kb⟩ rfl trivial rfl (by show 5 ≤ 5; omega) ⟨rfl, hn⟩ ?_
       refine wg.upd hi .d2 fun c d e c' d' e' hw q1 q2 q3 q4 q5 q6 => ?_
       rw [hp] at q1 q2 q3 q4 q5 q6
       have q1 : 1 ≤ c := q1
       have q4 : c' + 1 = c + 0 := q4
       have q5 : d' + 0 = d + 1 := q5
       have q6 : e' + 0 = e + 0 := q6
       refine ⟨fun h => ?_, fun h => ?_, fun h => ?_, fun vs e => ?_, fun _ => rfl⟩
       · have := hv5 h; omega
       · have := hw.w3 h; omega
       · have := hw.fin h; omega
       · have := hw.seen vs e; omega
     · obtain ⟨f, hn⟩ := hnot hl
       refine go ⟨.q, f, (D i).kb⟩ rfl trivial rfl (by show 0 ≤ 5; omega) hn ?_
       refine wg.upd hi .q fun c d e c' d' e' hw q1 q2 q3 q4 q5 q6 => ?_
       rw [hp] at q1 q2 q3 q4 q5 q6
       have q1 : 1 ≤ c := q1
       have q4 : c' + 1 = c + 0 := q4
       have q5 : d' + 0 = d + 0 := q5
       have q6 : e' + 0 = e + 0 := q6
       refine ⟨fun h => ?_, fun h => ?_, fun h => ?_, fun vs e => ?_, fun _ => rfl⟩
       · have := hw.opn h; omega
       · have := hw.w3 h; omega
       · have := hw.fin h; omega
       · have := hw.seen vs e; omega
   · exact idle0 hgo hD (by rw [hp]; trivial) (by rw [hp]; rfl) (by rw [hp]; exact ⟨hdd, hgs⟩) hf
 | d2 =>
   rw [hp] at hs
   obtain ⟨hdd, hs⟩ := hs
   rw [hp] at b2
   have b2' : 1 ≤ sumTo j fun x => (D x).p.d23 := b2
   have hst0 : tag.isW3 ∧ v = 0 ∧ wt = 1 ∧ sm = 0 := by
     rcases kinds with h | h | h
     · have := wg.opn h; omega
     · have := wg.w3 h; exact ⟨h, by omega⟩
     · have := wg.fin h; omega
   rcases goes_cases (Ry.refl w) hs with hst | ⟨f', g', w', es, hf, hgo, hD, hgs⟩
   · obtain ⟨_, hS⟩ := hst w (Ry.refl w)
     obtain ⟨h3, rfl, rfl, rfl⟩ := hst0
     obtain ⟨g', f, hgo, hn⟩ := hS (by simpa using c.wg)
     refine book (d' := ⟨.d3, f, (D i).kb⟩) (v' := 0) (wt' := 1) (sm' := 0) hgo (by rw [hp]; trivial) trivial rfl (by rw [hp]; rfl) rfl (Eff.refl w) (fun _ _ _ => rfl) rfl c.wg (fun e he => ?_) (by rw [hdd]; exact deaf_pre fun e he => by rw [Array.mem_singleton] at he; subst he; simp [rd]) ?_ (hW0 _ (by rw [hp]; rfl) (by rw [hp]; rfl) (by rw [hp]; rfl))
       (.inl (by rw [hp]; show 4 + tag.phi 0 < 5 + tag.phi 0; omega))
     · rw [Array.mem_singleton] at he; subst he; exact ⟨.inr (.inr ⟨_, _, rfl, rfl⟩), evAtom false shW0 WN⟩
     · rw [deafBehind_still fun e he => by rw [Array.mem_singleton] at he; subst he; simp [rd]]
       exact ⟨hdd, hn⟩
   · exact idle0 hgo hD (by rw [hp]; trivial) (by rw [hp]; rfl) (by rw [hp]; exact ⟨hdd, hgs⟩) hf
 | d3 =>
   rw [hp] at hs
   obtain ⟨hdd, hs⟩ := hs
   rw [hp] at b2
   have b2' : 1 ≤ sumTo j fun x => (D x).p.d23 := b2
   have hst0 : tag.isW3 ∧ v = 0 ∧ wt = 1 ∧ sm = 0 := by
     rcases kinds with h | h | h
     · have := wg.opn h; omega
     · have := wg.w3 h; exact ⟨h, by omega⟩
     · have := wg.fin h; omega
   rcases goes_cases (Ry.refl w) hs with hst | ⟨f', g', w', es, hf, hgo, hD, hgs⟩
   · obtain ⟨_, hS⟩ := hst w (Ry.refl w)
     obtain ⟨h3, rfl, rfl, rfl⟩ := hst0
     have hWg : WgAt C.tW C.Wg w 1 0 := by simpa using c.wg
     obtain ⟨g', f, hgo, hn⟩ := hS hWg
     have hWg' : WgAt C.tW C.Wg (w.setCell (stA C.Wg) (.int .u64 0)) (((0 : Nat) : Int) * KK + ((0 : Nat) : Int)) ((0 : Nat) : Int) := by simpa using hWg.setSt 0
     refine book (d' := ⟨.d4, f, (D i).kb⟩) (v' := 0) (wt' := 0) (sm' := 0) hgo (by rw [hp]; trivial) trivial rfl (by rw [hp]; rfl) rfl (Eff.wg w 0 _ A) (hWgSt 0 _) (hWgSz 0 _) hWg' (fun e he => ?_) (by rw [hdd]; exact deaf_pre fun e he => by rw [Array.mem_singleton] at he; subst he; simp [wr]) ?_ ?_
       (.inl (by rw [hp]; show 3 + tag.phi 0 < 4 + tag.phi 0; omega))
     · rw [Array.mem_singleton] at he; subst he; exact ⟨.inr (.inr ⟨_, _, rfl, rfl⟩), evAtom true shW0 WN⟩
     · rw [deafBehind_still fun e he => by rw [Array.mem_singleton] at he; subst he; simp [wr]]
       exact ⟨hdd, hn⟩
     · refine WInv.wakeM (D := upd (fun x => (D x).p) i .d4) (wg.upd hi .d4 fun c d e c' d' e' hw q1 q2 q3 q4 q5 q6 => ?_) _
       rw [hp] at q1 q2 q3 q4 q5 q6
       have q2 : 1 ≤ d := q2
       have q4 : c' + 0 = c + 0 := q4
       have q5 : d' + 1 = d + 0 := q5
       have q6 : e' + 0 = e + 1 := q6
       refine ⟨fun h => ?_, fun h => ?_, fun h => ?_, fun vs e => ?_, fun _ => rfl⟩
       · cases tag <;> first | exact h3.elim | exact h.elim
       · have := hw.w3 h; omega
       · cases tag <;> first | exact h3.elim | exact h.elim
       · subst e; exact h3.elim
   · exact idle0 hgo hD (by rw [hp]; trivial) (by rw [hp]; rfl) (by rw [hp]; exact ⟨hdd, hgs⟩) hf
 | d4 =>
   rw [hp] at hs
   obtain ⟨hdd, hs⟩ := hs
   rw [hp] at b3
   have b3' : 1 ≤ sumTo j fun x => (D x).p.e4 := b3
   have hst0 : tag.isW3 ∧ v = 0 ∧ wt = 0 ∧ sm = 0 := by
     rcases kinds with h | h | h
     · have := wg.opn h; omega
     · have := wg.w3 h; exact ⟨h, by omega⟩
     · have := wg.fin h; omega
   rcases goes_cases (Ry.refl w) hs with hst | ⟨f', g', w', es, hf, hgo, hD, hgs⟩
   · obtain ⟨_, hmw, hS⟩ := hst w (Ry.refl w)
     obtain ⟨h3, rfl, rfl, rfl⟩ := hst0
     have hWg : WgAt C.tW C.Wg w 0 0 := by simpa using c.wg
     obtain ⟨g', f, hgo, hn⟩ := hS hWg
     have hWg' : WgAt C.tW C.Wg (w.setCell (smA C.Wg) (.int .u32 1)) (((0 : Nat) : Int) * KK + ((0 : Nat) : Int)) ((1 : Nat) : Int) := by simpa using hWg.setSm 1
     have hwk : wakes P g g' = true := by
       rcases hn.status with h | h <;> simp [wakes, hmw, h]
     refine book (d' := ⟨.q, f, (D i).kb⟩) (v' := 0) (wt' := 0) (sm' := 1) hgo (by rw [hp]; trivial) trivial rfl (by rw [hp]; rfl) rfl (Eff.wg w 1 _ A) (hWgSt 1 _) (hWgSz 1 _) hWg' (fun e he => ⟨Go.ConcR.bk_sem e he, evSem shW1 WN e he⟩) (by rw [hdd]; exact deaf_pre_sem _) ?_ ?_
       (.inl (by rw [hp]; show 0 + tag.phi 0 < 3 + tag.phi 0; omega))
     · rw [deaf_sem, hdd]
       exact hn
     · rw [hwk]
       have e : wakeM true tag = .w3 := by cases tag <;> first | rfl | exact h3.elim
       rw [e]
       refine wg.upd hi .q fun c d e c' d' e' hw q1 q2 q3 q4 q5 q6 => ?_
       rw [hp] at q1 q2 q3 q4 q5 q6
       have q3 : 1 ≤ e := q3
       have q4 : c' + 0 = c + 0 := q4
       have q5 : d' + 0 = d + 0 := q5
       have q6 : e' + 1 = e + 0 := q6
       have := hw.w3 h3
       refine ⟨fun h => h.elim, fun h => ?_, fun h => h.elim, fun vs e => (by cases e), fun e => (by cases e)⟩
       omega
   · exact idle0 hgo hD (by rw [hp]; trivial) (by rw [hp]; rfl) (by rw [hp]; exact ⟨hdd, hgs⟩) hf
 | q =>
   rw [hp] at hs
   cases hf : (D i).f with
   | zero => rw [hf] at hs; rw [hs.1] at hrun; cases hrun
   | succ p =>
     rw [hf] at hs
     rcases hs with ⟨hfin, _⟩ | ⟨_, g', es, hm, hst, hq⟩
     · rw [hfin] at hrun; cases hrun
     · refine book (d' := ⟨.q, p, (D i).kb⟩) (v' := v) (wt' := wt) (sm' := sm) (hst w) (by rw [hp]; trivial) trivial rfl (by rw [hp]; rfl) rfl (Eff.refl w) (fun _ _ _ => rfl) rfl c.wg (fun e he => ⟨Go.ConcR.bk_of_mute (hm e he), ⟨fun x hx => (by rw [touch_mute (hm e he)] at hx; cases hx), fun hr => ?_, low_mute (hm e he) _⟩⟩)
         (fun jx e he => .inl (touch_mute (hm e (Array.mem_of_getElem? he)))) hq (hW0 _ (by rw [hp]) (by rw [hp]) (by rw [hp])) (.inr ⟨by rw [hp], by rw [hp], by show p < (D i).f; omega⟩)
       have h2 := hm e he
       obtain ⟨loc, wr, sy⟩ := e
       simp only at hr
       subst hr
       simp [Event.mute] at h2
end
end Go.Proofs.Ytcoppnbjpncdcaa.Q
end
section
set_option linter.unusedVariables false
set_option linter.unusedSimpArgs false
namespace Go.Proofs.Ytcoppnbjpncdcaa.Q
open Go Go.Conc
open Go.ConcR (KK WgAt wgBlock stA smA rd wr mk deafBehind_cons deafBehind_one)
open Go.ConcM (OsLater)
open Go.ConcN (sumTo upd sumTo_upd upd_ne upd_same le_sumTo sumTo_congr RelBy)
section
variable {C : Cfg}
theorem evM_mn {Kr Pv : Nat → Prop} {N : Nat} {e : Event} (h : EvM C Kr Pv N e) (hW : C.Wg < N) : EvMn C Kr Pv N e := by
 rcases h with ⟨a, x, rfl, hl, ho⟩ | rfl | rfl
 · refine ⟨fun y hy => ?_, by simp, low_cell a x false hl⟩
   obtain ⟨h1, h2, h3⟩ := touch_cell a x false hy
   simp only [Bool.false_eq_true, if_false] at h3
   exact .inr ⟨by rw [h3]; simp, a, h1, ho.imp id fun ⟨h4, h5⟩ => ⟨h2.trans h4, h5⟩⟩
 · refine ⟨fun y hy => ?_, by simp, hW⟩
   simp only [MemAct.ofEvent, MemAct.touch?, Option.some.injEq] at hy
   subst hy
   exact .inl ⟨.inr (.inr (.inr rfl)), by simp⟩
 · refine ⟨fun y hy => ?_, by simp, hW⟩
   simp only [MemAct.ofEvent, MemAct.touch?, Option.some.injEq] at hy
   subst hy
   exact .inl ⟨.inr (.inr (.inr rfl)), by simp⟩
theorem evM_still {Kr Pv : Nat → Prop} {N : Nat} {es : Array Event} (h : ∀ e ∈ es, EvM C Kr Pv N e) (d : Nat) : deafBehind d es = d :=
 deafBehind_still (fun e he => by rcases h e he with ⟨a, wr, rfl, _⟩ | rfl | rfl <;> simp) d
theorem evAtomM {Kr Pv : Nat → Prop} {N : Nat} {a : Addr} (wr : Bool) (h : Shr C (.cell a)) (hl : a.block < N) : EvMn C Kr Pv N ⟨.cell a, wr, true⟩ := by
 refine ⟨fun x hx => ?_, by simp, low_cell a wr true hl⟩
 obtain ⟨h1, h2, h3⟩ := touch_cell a wr true hx
 simp only [if_true] at h3
 exact .inl ⟨by rw [h1]; exact h, by rw [h3]; simp⟩
theorem evMarkM {Kr Pv : Nat → Prop} {N : Nat} (m : Mark) (h1 : (MemAct.ofEvent (mk m)).touch? = none) (h2 : m ≠ .release (stA C.Wg)) (h3 : (MemAct.ofEvent (mk m)).low N) : EvMn C Kr Pv N (mk m) :=
 ⟨fun x hx => (by rw [h1] at hx; cases hx), fun e => h2 (by simpa [mk] using e), h3⟩
theorem evSemM {Kr Pv : Nat → Prop} {N : Nat} {a : Addr} (h : Shr C (.cell a)) (hl : a.block < N) : ∀ e ∈ semEvents a, EvMn C Kr Pv N e := by
 intro e he
 simp [semEvents] at he
 rcases he with rfl | rfl | rfl | rfl
 · exact evMarkM .disable rfl (by simp) trivial
 · exact evAtomM _ h hl
 · exact evAtomM _ h hl
 · exact evMarkM .enable rfl (by simp) trivial
theorem Eff.wg1 {me : Nat → Prop} (w : World) (off : Nat) (v : Value) (A : C.Apart) : Eff C me (· = C.Wg) w (w.setCell ⟨C.Wg, off, none⟩ v) :=
 ⟨by simp [World.setCell], fun b _ hb => heap_set w _ v b hb, fun i a _ ha => cell_of_block' (heap_set w _ v _ (ha.blk.elim (fun x => x ▸ A.gw) fun x => x ▸ A.hw)), .refl _, rfl, fun b hb h1 h2 => cl_same (by simp [World.setCell]) (heap_set w _ v b fun x => hb (.inr (.inr (.inr x)))) h1 h2⟩
end
section
variable {C : Cfg} {P : Program} {vals : Nat → Value × Value × Value} {Kr K0 : Nat → Prop} {Anch F0 : Goroutine → World → Prop} {E : Env}
structure PhEnd (C : Cfg) (P : Program) (vals : Nat → Value × Value × Value) (F0 : Goroutine → World → Prop) (E : Env) (gs : Array Goroutine) (w : World) (t : Trace) (a : Goroutine) (q : Nat → Nat) : Prop where
 zero : gs[0]? = some a
 at0 : F0 a w
 leavers : Leavers P t gs q
 past : Past (fun l => (∃ a : Addr, l = .cell a ∧ E.J a.block) ∨ Shr C l) w.heap.size t
 has : ∀ i, i < C.n → Has C vals i w
 mu : ∃ m ms, MuAt C w m ms
 wg : ∃ st sm, WgAt C.tW C.Wg w st sm
 gg : RowAt C.G C.tG (2 * C.n) w
 hh : RowAt C.H C.tH C.n w
 frame : ∀ b : Nat, b < E.w0.heap.size → ¬ isG C b → w.heap[b]? = E.w0.heap[b]?
 size : w.heap.size = E.w0.heap.size + 3 * C.n
 os : OsLater E.w0.os w.os
 out : w.output = E.w0.output
 shp : ∀ b : Nat, E.w0.heap.size ≤ b → b < w.heap.size → Cl w b
set_option maxHeartbeats 8000000 in
theorem stepStarter {μ : M3} {M : Machine} {t : Trace} {gs : Array Goroutine} {w : World} {sl : Option (Nat × Nat)} {u : Trace} {j : Nat} {D : Nat → WD} {tag : Mp} {f0 : Nat} {q : Nat → Nat} {m : Mx} {ms v wt sm : Nat} {a : Goroutine}
   (I : PInv C P vals Kr K0 Anch F0 E μ M t gs w sl u j D tag f0 q m ms v wt sm a) (hrun : a.status = .running) :
   (∃ M' ops μ', runT P (crowd gs w sl) 0 = (.next M', ops) ∧ Lt3 μ' μ ∧ Invs C P vals Kr K0 Anch F0 E μ' M' (t ++ ops)) ∨
   (∃ gs' w' sl' a' q' ops, runT P (crowd gs w sl) 0 = (.next (crowd gs' w' sl'), ops) ∧ PhEnd C P vals F0 E gs' w' (t ++ ops) a' q') := by
 have O := I.ok
 have A := O.apart
 have c := I.com
 have wg := I.wg
 have WN : C.Wg < w.heap.size := Nat.lt_of_lt_of_le (O.new _ (.inr (.inr (.inr rfl)))).1 c.hsize
 have GN : C.G < w.heap.size := Nat.lt_of_lt_of_le (O.new _ (.inr (.inl rfl))).1 c.hsize
 have HN : C.H < w.heap.size := Nat.lt_of_lt_of_le (O.new _ (.inr (.inr (.inl rfl)))).1 c.hsize
 have pvG : ∀ b, isG C b → ¬ tag.pv b := fun b hG hp => by have := (O.new b hG).1; have := (c.pvs b hp).2; omega
 have shW0 : Shr C (.cell (stA C.Wg)) := .inr (.inr (.inl rfl))
 have shW1 : Shr C (.cell (smA C.Wg)) := .inr (.inr (.inr rfl))
 have rr : ∀ w : World, Ry C (fun _ => False) (fun b => Kr b ∨ none0 b) w w := fun w => Ry.refl w
 obtain ⟨hj, hdd, hs⟩ := I.sit
 have h9 := O.n9
 have hcs : (sumTo j fun x => (D x).p.cnt) ≤ j := sum_le' fun x => by cases (D x).p <;> simp [Wp.cnt]
 have idle : ∀ {a' : Goroutine} {w' : World} {es : Array Event} {f' : Nat}, stepG P true a w = .go a' w' es → Dm C Kr tag.pv w w' es → MS C P vals Kr K0 Anch F0 tag j f' (Deaf (E.t0 ++ u) 0) a' w' → f0 = f' + 1 →
     (∃ M' ops μ', runT P (crowd gs w sl) 0 = (.next M', ops) ∧ Lt3 μ' μ ∧ Invs C P vals Kr K0 Anch F0 E μ' M' (t ++ ops)) ∨ (∃ gs' w' sl' a' q' ops, runT P (crowd gs w sl) 0 = (.next (crowd gs' w' sl'), ops) ∧ PhEnd C P vals F0 E gs' w' (t ++ ops) a' q') := by
   intro a' w' es f' hgo hD hm hf
   obtain ⟨hmn, hes⟩ := hD
   refine .inl (stepM I hgo (tag' := tag) (f' := f') (v' := v) (wt' := wt) (sm' := sm) (Eff.mn hmn pvG) (fun b h => .inr h) ((hmn.block _ (pvG _ (.inr (.inr (.inr rfl))))).trans c.wg) (by rw [evM_still hes]; exact hm) (fun b h => .inl h) (fun e he => evM_mn (hes e he) (by rw [hmn.size]; exact WN)) wg (by rw [hmn.size]) (.inr ⟨rfl, .inl (by omega)⟩))
 have quiet : ∀ {a' : Goroutine} {w' : World} {es : Array Event} {tag' : Mp} {f' v' wt' sm' : Nat}, stepG P true a w = .go a' w' es → Eff C (fun _ => False) (· = C.Wg) w w' → WgAt C.tW C.Wg w' ((v' : Int) * KK + (wt' : Int)) (sm' : Int) → w'.heap.size = w.heap.size → tag'.pv = tag.pv → tag'.al = tag.al →
     (∀ e ∈ es, EvMn C Kr tag.pv w.heap.size e) → MS C P vals Kr K0 Anch F0 tag' j f' (deafBehind (Deaf (E.t0 ++ u) 0) es) a' w' → WInv j (fun x => (D x).p) tag' v' wt' sm' → (tag'.phi v' < tag.phi v ∨ (tag'.phi v' = tag.phi v ∧ f' = f0 ∧ tag'.awake < tag.awake ∧ wakes P a a' = false)) →
     (∃ M' ops μ', runT P (crowd gs w sl) 0 = (.next M', ops) ∧ Lt3 μ' μ ∧ Invs C P vals Kr K0 Anch F0 E μ' M' (t ++ ops)) ∨ (∃ gs' w' sl' a' q' ops, runT P (crowd gs w sl) 0 = (.next (crowd gs' w' sl'), ops) ∧ PhEnd C P vals F0 E gs' w' (t ++ ops) a' q') := by
   intro a' w' es tag' f' v' wt' sm' hgo hE hwg hsz hpv hal hev hm hW hlt
   exact .inl (stepM I hgo (tag' := tag') (f' := f') hE (fun b h => .inl h) hwg hm (fun b h => .inl (hpv ▸ h)) (by rw [hsz]; exact hev) hW (by rw [hsz, hal]) (hlt.imp id fun ⟨h1, h2⟩ => ⟨h1, .inr h2⟩))
 have sz1 : ∀ (off : Nat) (x : Value), (w.setCell ⟨C.Wg, off, none⟩ x).heap.size = w.heap.size := fun off x => by simp [World.setCell]
 have allot : ∀ {a' : Goroutine} {ob : Obj} {tag' : Mp} {f' : Nat}, (∃ c t, ob = Obj.cells c t) → stepG P true a w = .go a' { w with heap := w.heap.push ob } #[] → (∀ b, tag'.pv b → tag.pv b ∨ b = w.heap.size) → tag'.al = tag.al + 1 → MS C P vals Kr K0 Anch F0 tag' j f' (Deaf (E.t0 ++ u) 0) a' { w with heap := w.heap.push ob } → WInv j (fun x => (D x).p) tag' v wt sm → tag'.phi v < tag.phi v →
     (∃ M' ops μ', runT P (crowd gs w sl) 0 = (.next M', ops) ∧ Lt3 μ' μ ∧ Invs C P vals Kr K0 Anch F0 E μ' M' (t ++ ops)) ∨ (∃ gs' w' sl' a' q' ops, runT P (crowd gs w sl) 0 = (.next (crowd gs' w' sl'), ops) ∧ PhEnd C P vals F0 E gs' w' (t ++ ops) a' q') := by
   intro a' ob tag' f' hcl hgo hpv hal hm hW hlt
   have key : ∀ b : Nat, b < w.heap.size → (w.heap.push ob)[b]? = w.heap[b]? := fun b hb => by rw [Array.getElem?_push, if_neg (by omega)]
   exact .inl (stepM I hgo (tag' := tag') (f' := f') (v' := v) (wt' := wt) (sm' := sm) (X := fun _ => False) (Eff.push w ob hcl GN HN) (fun b h => h.elim) ((key _ WN).trans c.wg) hm (fun b h => (hpv b h).imp id fun h => ⟨h, by simp⟩) (by simp) hW (by rw [hal, Array.size_push]; omega) (.inl hlt))
 cases htag : tag with
 | a1 r =>
   subst htag
   rcases goes_cases (Ry.refl w) hs with hst | ⟨f', a', w', es, hf, hgo, hD, hgs⟩
   · obtain ⟨_, a', f, ob, hcl, hgo, hn⟩ := hst w (Ry.refl w)
     have h := wg.opn trivial
     exact allot (tag' := .a2 r w.heap.size) (f' := f) hcl hgo (fun b h => .inr (h.elim id id)) rfl ⟨hj, hdd, hn⟩ ⟨fun _ => h, fun x => x.elim, fun x => x.elim, by simp, by simp⟩ (by show 100 * r + 105 < 100 * r + 106; omega)
   · exact idle hgo hD ⟨hj, hdd, hgs⟩ hf
 | a2 r bi =>
   subst htag
   rcases goes_cases (Ry.refl w) hs with hst | ⟨f', a', w', es, hf, hgo, hD, hgs⟩
   · obtain ⟨_, a', f, ob, hcl, hgo, hn⟩ := hst w (Ry.refl w)
     have h := wg.opn trivial
     exact allot (tag' := .sk r bi w.heap.size) (f' := f) hcl hgo (fun b h => h.imp (fun x => .inl x) id) rfl ⟨hj, hdd, hn⟩ ⟨fun _ => h, fun x => x.elim, fun x => x.elim, by simp, by simp⟩ (by show 100 * r + 104 < 100 * r + 105; omega)
   · exact idle hgo hD ⟨hj, hdd, hgs⟩ hf
 | sk r bi br =>
   subst htag
   rcases goes_cases (Ry.refl w) hs with hst | ⟨f', a', w', es, hf, hgo, hD, hgs⟩
   · obtain ⟨_, a', f, hgo, hn⟩ := hst w (Ry.refl w)
     have h := wg.opn trivial
     refine quiet (tag' := .sa r bi br) (f' := f) (v' := v) (wt' := wt) (sm' := sm) hgo (Eff.refl w) c.wg rfl rfl rfl (fun e he => by rw [Array.mem_singleton] at he; subst he; exact evMarkM .disable rfl (by simp) trivial) ⟨hj, ?_, hn⟩ ⟨fun _ => h, fun x => x.elim, fun x => x.elim, by simp, by simp⟩ (.inl (by show 100 * r + 103 < 100 * r + 104; omega))
     rw [deaf_dis, hdd]; rfl
   · exact idle hgo hD ⟨hj, hdd, hgs⟩ hf
 | sa r bi br =>
   subst htag
   rcases goes_cases (Ry.refl w) hs with hst | ⟨f', a', w', es, hf, hgo, hD, hgs⟩
   · obtain ⟨_, hS⟩ := hst w (Ry.refl w)
     have h := wg.opn trivial
     have hpend : Mp.pend (.sa r bi br) = 0 := rfl
     have hv : v ≤ j := by rw [hpend] at h; have := h.1; omega
     have h1 := h.1
     have h2 := h.2.1
     have h3 := h.2.2.1
     subst h2 h3
     have hWg : WgAt C.tW C.Wg w ((v : Int) * KK) 0 := by simpa using c.wg
     have hjn : j ≤ C.n := by omega
     obtain ⟨a', f, hgo, hn⟩ := hS v (by omega) hWg
     refine quiet (tag' := .se r bi br) (f' := f) (v' := v + 1) (wt' := 0) (sm' := 0) hgo (Eff.wg1 w 0 _ A) (by simpa using hWg.setSt (((v : Int) + 1) * KK)) (sz1 0 _) rfl rfl (fun e he => ?_) ⟨hj, ?_, hn⟩ ⟨fun _ => ⟨by rw [h1]; rfl, rfl, rfl, h.2.2.2⟩, fun x => x.elim, fun x => x.elim, by simp, by simp⟩ (.inl (by show 100 * r + 102 < 100 * r + 103; omega))
     · simp only [List.mem_toArray, List.mem_cons, List.not_mem_nil, or_false] at he
       rcases he with rfl | rfl
       · exact evAtomM false shW0 WN
       · exact evAtomM true shW0 WN
     · rw [deafBehind_still (fun e he => by simp only [List.mem_toArray, List.mem_cons, List.not_mem_nil, or_false] at he; rcases he with rfl | rfl <;> simp [rd, wr]), hdd]; rfl
   · exact idle hgo hD ⟨hj, hdd, hgs⟩ hf
 | se r bi br =>
   subst htag
   rcases goes_cases (Ry.refl w) hs with hst | ⟨f', a', w', es, hf, hgo, hD, hgs⟩
   · obtain ⟨_, a', f, hgo, hn⟩ := hst w (Ry.refl w)
     have h := wg.opn trivial
     refine quiet (tag' := .go r bi br) (f' := f) (v' := v) (wt' := wt) (sm' := sm) hgo (Eff.refl w) c.wg rfl rfl rfl (fun e he => by rw [Array.mem_singleton] at he; subst he; exact evMarkM .enable rfl (by simp) trivial) ⟨hj, ?_, hn⟩ ⟨fun _ => h, fun x => x.elim, fun x => x.elim, by simp, by simp⟩ (.inl (by show 100 * r + 101 < 100 * r + 102; omega))
     rw [deaf_en, hdd]; rfl
   · exact idle hgo hD ⟨hj, hdd, hgs⟩ hf
 | go r bi br =>
   subst htag
   rcases goes_cases (Ry.refl w) hs with hst | ⟨f', a', w', es, hf, hgo, hD, hgs⟩
   · obtain ⟨_, a', child, f, hgo, _, hch, hn⟩ := hst w (Ry.refl w)
     left
     have hk : ∀ b, KbI K0 bi br b → b < w.heap.size ∧ ¬ isG C b ∧ ¬ E.J b := by
       intro b hb
       rcases hb with hb | hb
       · have := O.k0 b hb; exact ⟨Nat.lt_of_lt_of_le this.1 c.hsize, this.2.2, this.2.1⟩
       · have := c.pvs b hb; exact ⟨this.1, fun hG => by have := (O.new b hG).1; omega, fun hJ => by have := O.jlow b hJ; omega⟩
     have hleft : j + (r + 1) = C.n := hj
     have hch := hch (c.zero j (Nat.le_refl _) (by omega))
     cases r with
     | zero =>
       obtain ⟨f', hn⟩ := hn
       exact stepS I hgo rfl hk hch (tag' := .kd) (f' := f') ⟨by show j + 1 + 0 = C.n; omega, rfl, hn⟩ rfl trivial rfl (by simp) (by show 60 + 40 < 100 * 0 + 101; omega) rfl
     | succ r =>
       obtain ⟨f', hn⟩ := hn
       rw [show C.n - (r + 1) = j + 1 by omega] at hn
       exact stepS I hgo rfl hk hch (tag' := .a1 r) (f' := f') ⟨by show j + 1 + (r + 1) = C.n; omega, rfl, hn⟩ rfl trivial rfl (by simp) (by show 100 * r + 106 + 40 < 100 * (r + 1) + 101; omega) rfl
   · exact idle hgo hD ⟨hj, hdd, hgs⟩ hf
 | kd =>
   subst htag
   rcases goes_cases (Ry.refl w) hs with hst | ⟨f', a', w', es, hf, hgo, hD, hgs⟩
   · obtain ⟨_, a', f, hgo, hn⟩ := hst w (Ry.refl w)
     have h := wg.opn trivial
     obtain ⟨N, hN⟩ := O.anch
     have h1 : v = (sumTo j fun x => (D x).p.cnt) + 0 := h.1
     refine quiet (tag' := .w1) (f' := f + N) (v' := v) (wt' := wt) (sm' := sm) hgo (Eff.refl w) c.wg rfl rfl rfl (fun e he => by rw [Array.mem_singleton] at he; subst he; exact evMarkM .disable rfl (by simp) trivial) ⟨hj, ?_, goes_seq rr hN hn⟩ ⟨fun _ => h, fun x => x.elim, fun x => x.elim, by simp, by simp⟩ (.inl (by show 3 * v + 20 < 60; omega))
     rw [deaf_dis, hdd]; rfl
   · exact idle hgo hD ⟨hj, hdd, hgs⟩ hf
 | w1 =>
   subst htag
   rcases goes_cases (Ry.refl w) hs with hst | ⟨f', a', w', es, hf, hgo, hD, hgs⟩
   · obtain ⟨_, hS⟩ := hst w (Ry.refl w)
     have h := wg.opn trivial
     have h1 : v = (sumTo j fun x => (D x).p.cnt) + 0 := h.1
     have h2 := h.2.1
     have h3 := h.2.2.1
     have h4 := h.2.2.2
     subst h2 h3
     have hWg : WgAt C.tW C.Wg w ((v : Int) * KK) 0 := by simpa using c.wg
     obtain ⟨a', hgo, hn0, hn1⟩ := hS v (by omega) hWg
     have hevs : ∀ e ∈ #[rd (stA C.Wg)], EvMn C Kr (Mp.pv .w1) w.heap.size e := fun e he => by rw [Array.mem_singleton] at he; subst he; exact evAtomM false shW0 WN
     have hdf : ∀ d, deafBehind d #[rd (stA C.Wg)] = d := deafBehind_still fun e he => by rw [Array.mem_singleton] at he; subst he; simp [rd]
     by_cases hv0 : v = 0
     · obtain ⟨f, hn⟩ := hn0 hv0
       refine quiet (tag' := .ke) (f' := f) (v' := v) (wt' := 0) (sm' := 0) hgo (Eff.refl w) c.wg rfl rfl rfl hevs ⟨hj, by rw [hdf, hdd]; rfl, hn⟩ ⟨fun x => x.elim, fun x => x.elim, fun _ => ⟨hv0, rfl, rfl, by show (sumTo j fun x => (D x).p.cnt) = 0; omega, h4⟩, by simp, by simp⟩ (.inl (by show 13 < 3 * v + 20; omega))
     · obtain ⟨f, hn⟩ := hn1 hv0
       refine quiet (tag' := .w2 v) (f' := f) (v' := v) (wt' := 0) (sm' := 0) hgo (Eff.refl w) c.wg rfl rfl rfl hevs ⟨hj, by rw [hdf, hdd]; rfl, hn⟩ ⟨fun _ => h, fun x => x.elim, fun x => x.elim, fun vs e => by cases e; omega, by simp⟩ (.inl (by show 3 * v + 19 < 3 * v + 20; omega))
   · exact idle hgo hD ⟨hj, hdd, hgs⟩ hf
 | w2 vs =>
   subst htag
   rcases goes_cases (Ry.refl w) hs with hst | ⟨f', a', w', es, hf, hgo, hD, hgs⟩
   · obtain ⟨_, hS⟩ := hst w (Ry.refl w)
     have h := wg.opn trivial
     have hseen := wg.seen vs rfl
     have h1 : v = (sumTo j fun x => (D x).p.cnt) + 0 := h.1
     have h2 := h.2.1
     have h3 := h.2.2.1
     have h4 := h.2.2.2
     subst h2 h3
     have hWg : WgAt C.tW C.Wg w ((v : Int) * KK) 0 := by simpa using c.wg
     obtain ⟨hhit, hmiss⟩ := hS v (by omega) hWg
     by_cases hv0 : v = vs
     · obtain ⟨a', f, hgo, hn⟩ := hhit hv0
       refine quiet (tag' := .w3) (f' := f) (v' := v) (wt' := 1) (sm' := 0) hgo (Eff.wg1 w 0 _ A) (by simpa using hWg.setSt ((v : Int) * KK + 1)) (sz1 0 _) rfl rfl (fun e he => ?_) ⟨hj, ?_, hn⟩ ⟨fun x => x.elim, fun _ => ⟨by show v = sumTo j fun x => (D x).p.cnt; omega, .inl ⟨by omega, rfl, rfl, h4⟩⟩, fun x => x.elim, by simp, by simp⟩ (.inl (by show 15 < 3 * vs + 19; omega))
       · simp only [List.mem_toArray, List.mem_cons, List.not_mem_nil, or_false] at he
         rcases he with rfl | rfl
         · exact evAtomM false shW0 WN
         · exact evAtomM true shW0 WN
       · rw [deafBehind_still (fun e he => by simp only [List.mem_toArray, List.mem_cons, List.not_mem_nil, or_false] at he; rcases he with rfl | rfl <;> simp [rd, wr]), hdd]; rfl
     · obtain ⟨a', f, hgo, hn⟩ := hmiss hv0
       obtain ⟨N, hN⟩ := O.anch
       refine quiet (tag' := .w1) (f' := f + N) (v' := v) (wt' := 0) (sm' := 0) hgo (Eff.refl w) c.wg rfl rfl rfl (fun e he => by rw [Array.mem_singleton] at he; subst he; exact evAtomM false shW0 WN) ⟨hj, ?_, goes_seq rr hN hn⟩ ⟨fun _ => h, fun x => x.elim, fun x => x.elim, by simp, by simp⟩ (.inl (by show 3 * v + 20 < 3 * vs + 19; omega))
       rw [deafBehind_still (fun e he => by rw [Array.mem_singleton] at he; subst he; simp [rd]), hdd]; rfl
   · exact idle hgo hD ⟨hj, hdd, hgs⟩ hf
 | w3 =>
   subst htag
   rcases goes_cases (Ry.refl w) hs with hst | ⟨f', a', w', es, hf, hgo, hD, hgs⟩
   · obtain ⟨_, hoff, hb, hg⟩ := hst w (Ry.refl w)
     have h := wg.w3 trivial
     by_cases hsm : sm = 0
     · subst hsm
       have hgo := hb ⟨_, c.wg⟩
       refine quiet (tag' := .b3) (f' := f0) (v' := v) (wt' := wt) (sm' := 0) hgo (Eff.refl w) c.wg rfl rfl rfl (by simp) ⟨hj, hdd, a, rfl, hrun, hoff, hst⟩ ⟨fun x => x.elim, fun _ => h, fun x => x.elim, by simp, fun _ => rfl⟩ (.inr ⟨rfl, rfl, Nat.one_pos, by simp [wakes]⟩)
     · have h' : v = 0 ∧ wt = 0 ∧ sm = 1 ∧ (sumTo j fun x => (D x).p.d23) = 0 ∧ (sumTo j fun x => (D x).p.e4) = 0 := by
         rcases h.2 with x | x | x | x
         · exact absurd x.2.2.1 hsm
         · exact absurd x.2.2.1 hsm
         · exact absurd x.2.2.1 hsm
         · exact x
       have hc0 : v = sumTo j fun x => (D x).p.cnt := h.1
       obtain ⟨rfl, rfl, rfl, h4⟩ := h'
       have hWg : WgAt C.tW C.Wg w 0 1 := by simpa using c.wg
       obtain ⟨a', f, hgo, hn⟩ := hg hWg
       refine quiet (tag' := .w4) (f' := f) (v' := 0) (wt' := 0) (sm' := 0) hgo (Eff.wg1 w 1 _ A) (by simpa using hWg.setSm 0) (sz1 1 _) rfl rfl (evSemM shW1 WN) ⟨hj, by rw [deaf_sem, hdd]; rfl, hn⟩ ⟨fun x => x.elim, fun x => x.elim, fun _ => ⟨rfl, rfl, rfl, hc0.symm, h4⟩, by simp, by simp⟩ (.inl (by show 14 < 15; omega))
   · exact idle hgo hD ⟨hj, hdd, hgs⟩ hf
 | b3 =>
   subst htag
   obtain ⟨g0, e, _⟩ := hs
   rw [e] at hrun
   cases hrun
 | w4 =>
   subst htag
   rcases goes_cases (Ry.refl w) hs with hst | ⟨f', a', w', es, hf, hgo, hD, hgs⟩
   · obtain ⟨_, hS⟩ := hst w (Ry.refl w)
     have h := wg.fin trivial
     obtain ⟨rfl, rfl, rfl, h4⟩ := id h
     obtain ⟨a', f, hgo, hn⟩ := hS (by simpa using c.wg)
     refine quiet (tag' := .ke) (f' := f) (v' := 0) (wt' := 0) (sm' := 0) hgo (Eff.refl w) c.wg rfl rfl rfl (fun e he => by rw [Array.mem_singleton] at he; subst he; exact evAtomM false shW0 WN) ⟨hj, ?_, hn⟩ ⟨fun x => x.elim, fun x => x.elim, fun _ => h, by simp, by simp⟩ (.inl (by show 13 < 14; omega))
     rw [deafBehind_still (fun e he => by rw [Array.mem_singleton] at he; subst he; simp [rd]), hdd]; rfl
   · exact idle hgo hD ⟨hj, hdd, hgs⟩ hf
 | ke =>
   subst htag
   rcases goes_cases (Ry.refl w) hs with hst | ⟨f', a', w', es, hf, hgo, hD, hgs⟩
   · obtain ⟨_, a', f, hgo, hn⟩ := hst w (Ry.refl w)
     have h := wg.fin trivial
     refine quiet (tag' := .acq) (f' := f) (v' := v) (wt' := wt) (sm' := sm) hgo (Eff.refl w) c.wg rfl rfl rfl (fun e he => by rw [Array.mem_singleton] at he; subst he; exact evMarkM .enable rfl (by simp) trivial) ⟨hj, ?_, hn⟩ ⟨fun x => x.elim, fun x => x.elim, fun _ => h, by simp, by simp⟩ (.inl (by show 12 < 13; omega))
     rw [deaf_en, hdd]; rfl
   · exact idle hgo hD ⟨hj, hdd, hgs⟩ hf
 | acq =>
   subst htag
   rcases goes_cases (Ry.refl w) hs with hst | ⟨f', a', w', es, hf, hgo, hD, hgs⟩
   · obtain ⟨_, a', hgo, hn⟩ := hst w (Ry.refl w)
     right
     have h := wg.fin trivial
     have hjn : j = C.n := by have : j + 0 = C.n := hj; omega
     have allq : ∀ x, x < j → (D x).p = .q := by
       intro x hx
       have h1 : (D x).p.cnt = 0 := by have := le_sumTo (f := fun x => (D x).p.cnt) hx; omega
       have h2 : (D x).p.d23 = 0 := by have := le_sumTo (f := fun x => (D x).p.d23) hx; omega
       have h3 : (D x).p.e4 = 0 := by have := le_sumTo (f := fun x => (D x).p.e4) hx; omega
       cases hp : (D x).p <;> rw [hp] at h1 h2 h3 <;> first | rfl | exact absurd h1 Nat.one_ne_zero | exact absurd h2 Nat.one_ne_zero | exact absurd h3 Nat.one_ne_zero
     have hrunT := runT_crowd_go (P := P) (sl := sl) (i := 0) I.zero (by simpa using hgo)
     obtain ⟨ops, hops⟩ : ∃ ops, ops = MemOp.ofEvents 0 a.frame.fn a.frame.place #[mk (.acquire (stA C.Wg))] := ⟨_, rfl⟩
     have hops1 : ops = #[{ g := 0, fn := a.frame.fn, pos := a.frame.place, act := .mark (.acquire (stA C.Wg)) }] := by rw [hops, ofEvents_eq]; simp [Go.ConcR.ofEvent_mk]
     rw [← hops] at hrunT
     have opg : ∀ op ∈ ops, op.g = 0 := fun op hop => by rw [hops1] at hop; simp at hop; rw [hop]
     have tapp : E.t0 ++ (u ++ ops) = (E.t0 ++ u) ++ ops := (Array.append_assoc ..).symm
     have deafO : ∀ x, x ≠ 0 → Deaf (E.t0 ++ (u ++ ops)) x = Deaf (E.t0 ++ u) x := fun x hx => by rw [tapp]; exact Deaf_other _ (Ne.symm hx) _ opg
     have hd0 : Deaf (E.t0 ++ u) 0 = 0 := hdd
     have hd0' : Deaf (E.t0 ++ (u ++ ops)) 0 = 0 := by rw [tapp, hops, Deaf_own, deaf_oth _ (by simp) (by simp)]; exact hd0
     have hlt' : 0 < gs.size := (Array.getElem?_eq_some_iff.1 I.zero).1
     have gne : ∀ x, x ≠ 0 → ((gs.map (woken P a a' w)).setIfInBounds 0 a')[x]? = (gs[x]?).map (woken P a a' w) := fun x hx => by
       rw [Array.getElem?_setIfInBounds_ne (Ne.symm hx), Array.getElem?_map]
     have hlast : (E.t0 ++ (u ++ ops))[(E.t0 ++ u).size]? = some { g := 0, fn := a.frame.fn, pos := a.frame.place, act := .mark (.acquire (stA C.Wg)) } := by
       rw [tapp, Array.getElem?_append_right (Nat.le_refl _), Nat.sub_self, hops1]; rfl
     refine ⟨(gs.map (woken P a a' w)).setIfInBounds 0 a', w, sl, a', fun k => if k ≤ E.j0 then q k else (D (k - E.j0 - 1)).f, ops, hrunT, Array.getElem?_setIfInBounds_self_of_lt (by simpa using hlt'), hn, ⟨fun x y h1 hx => ?_, fun x hx => ?_⟩, ?_, fun x hx => ?_, ⟨m, ms, c.mu⟩, ⟨_, _, c.wg⟩, c.gg, c.hh, c.frame, ?_, c.os, c.out, c.shp⟩
     · rw [I.isT, show (E.t0 ++ u) ++ ops = E.t0 ++ (u ++ ops) from tapp.symm, deafO x (by omega)]
       rw [gne x (by omega)] at hx
       obtain ⟨y', hy', rfl⟩ := Option.map_eq_some_iff.1 hx
       by_cases hk : x ≤ E.j0
       · have hq := c.old x y' h1 hk hy'
         rw [woken_quitsD hq, if_pos hk]
         exact hq
       · have hlt : x < gs.size := (Array.getElem?_eq_some_iff.1 hy').1
         rw [c.size] at hlt
         obtain ⟨i, rfl⟩ : ∃ i, x = E.j0 + 1 + i := ⟨x - E.j0 - 1, by omega⟩
         obtain ⟨y'', hy'', hws⟩ := c.wk i (by omega)
         obtain rfl : y' = y'' := by rw [hy'] at hy''; exact Option.some.inj hy''
         unfold WS at hws
         rw [allq i (by omega)] at hws
         rw [woken_quitsD hws, if_neg hk, show E.j0 + 1 + i - E.j0 - 1 = i by omega]
         exact hws
     · rw [I.isT, show (E.t0 ++ u) ++ ops = E.t0 ++ (u ++ ops) from tapp.symm, deafO x (by simp at hx; omega)]
       exact c.above x (by simpa using hx)
     · rw [I.isT, show (E.t0 ++ u) ++ ops = E.t0 ++ (u ++ ops) from tapp.symm]
       have tr' : Tr (fam C (fun l => ∃ a : Addr, l = .cell a ∧ E.J a.block) E.j0 fun i b => i < j ∧ (D i).kb b) (E.t0 ++ (u ++ ops)) (E.j0 + j) := by
         rw [tapp]
         exact c.tr.appMute (g := 0) (fun op hop => by rw [hops1] at hop; simp at hop; rw [hop]; rfl) opg
       refine tr'.finish (a := stA C.Wg) (q := (E.t0 ++ u).size) c.past0 (Suf.app c.suf (fun op hop x hx => by rw [hops1] at hop; simp at hop; rw [hop] at hx; cases hx) (fun op hop => by rw [hops1] at hop; simp at hop; rw [hop]; simp)) ?_ c.fresh ?_ ?_ ?_ ?_ hd0' ?_
       · rintro l (hl | hl)
         · exact .inr hl
         · exact .inl hl
       · intro x k hx hk hk0 ht
         obtain ⟨op, hop, hopg⟩ := Option.map_eq_some_iff.1 hk
         have hopu : op ∈ u := by
           rw [tapp] at hop
           rcases getElem?_append_cases hop with ⟨hlt, hop'⟩ | ⟨_, hop'⟩
           · rcases getElem?_append_cases hop' with ⟨hlt2, _⟩ | ⟨_, h'⟩
             · omega
             · exact h'
           · exact absurd (hopg.symm.trans (opg op hop')) hk0
         rcases c.who op hopu with h' | h' | ⟨i, hi, h'⟩
         · exact absurd (hopg.symm.trans h') hk0
         · rw [touchAt_of hop, h'] at ht; cases ht
         · obtain ⟨r, hr⟩ := c.rel i hi (by rw [allq i hi]; trivial)
           have hk' : k = E.j0 + 1 + i := hopg.symm.trans h'
           refine ⟨r, ?_, lt_of_act? hr.act⟩
           rw [hk', tapp]
           exact Go.ConcN.RelBy.appOther hr opg (by omega)
       · rw [act?_of hlast]
       · unfold Trace.g?; rw [hlast]; rfl
       · exact ⟨0, by unfold Trace.g?; rw [hlast]; rfl, by rw [tapp, deaf_old (Nat.le_refl _)]; exact hd0⟩
       · intro op hop
         rw [tapp] at hop
         rcases Array.mem_append.1 hop with h' | h'
         · exact c.low op h'
         · rw [hops1] at h'
           simp at h'
           rw [h']
           exact WN
     · exact c.has x (by omega) (by rw [allq x (by omega)]; trivial)
     · have h1 := I.cnt
       have h2 : (sumTo j fun i => (D i).p.al) = j := by
         have key : ∀ k, k ≤ j → (sumTo k fun i => (D i).p.al) = k := by
           intro k
           induction k with
           | zero => intro _; rfl
           | succ k ih => intro hk; show (sumTo k fun i => (D i).p.al) + (D k).p.al = k + 1; rw [ih (by omega), allq k (by omega)]; rfl
         exact key j (Nat.le_refl _)
       have h3 : Mp.al .acq = 0 := rfl
       rw [h2, h3] at h1
       omega
   · exact idle hgo hD ⟨hj, hdd, hgs⟩ hf
theorem someone_runs {μ : M3} {M : Machine} {t : Trace} {gs : Array Goroutine} {w : World} {sl : Option (Nat × Nat)} {u : Trace} {j : Nat} {D : Nat → WD} {tag : Mp} {f0 : Nat} {q : Nat → Nat} {m : Mx} {ms v wt sm : Nat} {a : Goroutine}
   (I : PInv C P vals Kr K0 Anch F0 E μ M t gs w sl u j D tag f0 q m ms v wt sm a) : ∃ (i : Nat) (g : Goroutine), gs[i]? = some g ∧ g.status = .running := by
 rcases I.sit.status with ⟨hs, _⟩ | ⟨_, hb⟩
 · exact ⟨0, a, I.zero, hs⟩
 · refine Classical.byContradiction fun hno => ?_
   have c := I.com
   have hall : ∀ x, x < j → (D x).p = .q ∨ ∃ T, (D x).p = .bk T := by
     intro x hx
     obtain ⟨g, hg, hws⟩ := c.wk x hx
     rcases hws.status with h | ⟨_, h⟩ | ⟨_, h⟩
     · exact absurd ⟨_, g, hg, h⟩ hno
     · exact .inl h
     · exact .inr h
   have hq : ∀ x, x < j → (D x).p = .q := by
     intro x hx
     refine (hall x hx).resolve_right fun ⟨T, hT⟩ => ?_
     have hms := I.blk x hx ⟨T, hT⟩
     subst hms
     have hT1 : ∀ y, y < j → ∀ T, (D y).p = .bk T → T.pc = .s1 := by
       intro y hy T hT
       obtain ⟨g, hg, hws⟩ := c.wk y hy
       unfold WS at hws
       rw [hT] at hws
       exact hws.2.1
     have := I.mu.live (fun y hy => by
       rcases hall y hy with h | ⟨T, h⟩
       · right; show (D y).p.th.pc = .out; rw [h]; rfl
       · left; show (D y).p.th.pc = .s1; rw [h]; exact hT1 y hy T h) x hx
     have h1 : T.pc = .s1 := hT1 x hx T hT
     have h2 : (D x).p.th.pc = .out := this
     rw [hT] at h2
     have h3 : T.pc = .out := h2
     rw [h1] at h3
     cases h3
   have hw := I.wg.w3 (by rw [hb]; trivial)
   have hbk := I.wg.blk hb
   have z1 : (sumTo j fun x => (D x).p.cnt) = 0 := sum0 fun x hx => by rw [hq x hx]; rfl
   have z2 : (sumTo j fun x => (D x).p.d23) = 0 := sum0 fun x hx => by rw [hq x hx]; rfl
   have z3 : (sumTo j fun x => (D x).p.e4) = 0 := sum0 fun x hx => by rw [hq x hx]; rfl
   have hw1 : v = sumTo j fun x => (D x).p.cnt := hw.1
   rcases hw.2 with x | x | x | x
   · have := x.1; omega
   · have := x.2.2.2.1; omega
   · have := x.2.2.2.2; omega
   · have := x.2.2.1; omega
theorem PInv.at {μ : M3} {M : Machine} {t : Trace} {gs : Array Goroutine} {w : World} {sl sl' : Option (Nat × Nat)} {u : Trace} {j : Nat} {D : Nat → WD} {tag : Mp} {f0 : Nat} {q : Nat → Nat} {m : Mx} {ms v wt sm : Nat} {a : Goroutine}
   (I : PInv C P vals Kr K0 Anch F0 E μ M t gs w sl u j D tag f0 q m ms v wt sm a) (d : Nat) : PInv C P vals Kr K0 Anch F0 E μ (crowd gs (w.at d) sl') t gs (w.at d) sl' u j D tag f0 q m ms v wt sm a := by
 have c := I.com
 refine ⟨I.ok, rfl, I.isT, I.zero, I.sit.rely (Ry.at w d), ?_, I.mu, I.wg, I.blk, I.cnt, I.isμ⟩
 exact ⟨c.size, c.old, fun i hi => let ⟨g, h1, h2⟩ := c.wk i hi; ⟨g, h1, h2.rely (Ry.at w d)⟩, fun i hi h => c.has i hi h, c.rel, c.kbs, c.pvs, c.above, c.mu, c.wg, c.gg, c.hh, c.frame, c.hsize, c.os, c.out, c.tr, c.suf, c.low, c.who, c.fresh, c.zero, c.past0, c.shp⟩
theorem phase_step {μ : M3} {M : Machine} {t : Trace} (h : Invs C P vals Kr K0 Anch F0 E μ M t) :
   (∃ M' ops μ', stepT P M = (.next M', ops) ∧ Lt3 μ' μ ∧ Invs C P vals Kr K0 Anch F0 E μ' M' (t ++ ops)) ∨ (∃ gs' w' sl' a' q' ops, stepT P M = (.next (crowd gs' w' sl'), ops) ∧ PhEnd C P vals F0 E gs' w' (t ++ ops) a' q') := by
 obtain ⟨gs, w, sl, u, j, D, tag, f0, q, m, ms, v, wt, sm, a, I⟩ := h
 have c := I.com
 have haw : ∀ g ∈ gs, awake g := by
   intro g hg tm
   obtain ⟨i, hi⟩ := Array.mem_iff_getElem?.1 hg
   have hlt : i < gs.size := (Array.getElem?_eq_some_iff.1 hi).1
   rw [c.size] at hlt
   rcases Nat.eq_zero_or_pos i with rfl | hpos
   · rw [I.zero] at hi; cases hi
     rcases I.sit.status with ⟨hs, _⟩ | ⟨hs, _⟩ <;> rw [hs] <;> simp
   · by_cases hk : i ≤ E.j0
     · rcases (c.old i g hpos hk hi).status with h | h <;> rw [h] <;> simp
     · obtain ⟨x, rfl⟩ : ∃ x, i = E.j0 + 1 + x := ⟨i - E.j0 - 1, by omega⟩
       obtain ⟨g', hg', hws⟩ := c.wk x (by omega)
       rw [hi] at hg'; cases hg'
       rcases hws.status with h | ⟨h, _⟩ | ⟨h, _⟩ <;> rw [h] <;> simp
 obtain ⟨i, g, d, sl', hg, hrun, hstep⟩ := crowd_pick (P := P) (w := w) (sl := sl) haw (someone_runs I)
 rw [I.isM, hstep]
 have I' := I.at (sl' := sl') d
 have hlt : i < gs.size := (Array.getElem?_eq_some_iff.1 hg).1
 rw [c.size] at hlt
 rcases Nat.eq_zero_or_pos i with rfl | hpos
 · rw [I.zero] at hg; cases hg
   exact stepStarter I' hrun
 · by_cases hk : i ≤ E.j0
   · exact .inl (stepO I' hpos hk hg hrun)
   · obtain ⟨x, rfl⟩ : ∃ x, i = E.j0 + 1 + x := ⟨i - E.j0 - 1, by omega⟩
     exact .inl (stepWorker I' (by omega) hg hrun)
theorem phase_runs {μ : M3} {M : Machine} {t : Trace} (h : Invs C P vals Kr K0 Anch F0 E μ M t) : ∃ N gs' w' sl' a' q' t', runNT P N M t = (.next (crowd gs' w' sl'), t') ∧ PhEnd C P vals F0 E gs' w' t' a' q' := by
 induction μ using Lt3_wf.induction generalizing M t with
 | _ μ ih =>
   rcases phase_step h with ⟨M', ops, μ', hs, hlt, h'⟩ | ⟨gs', w', sl', a', q', ops, hs, hE⟩
   · obtain ⟨N, gs', w', sl', a', q', t', hr, hE⟩ := ih μ' hlt h'
     exact ⟨N + 1, gs', w', sl', a', q', t', by simp only [runNT, hs]; exact hr, hE⟩
   · exact ⟨1, gs', w', sl', a', q', _, by simp only [runNT, hs], hE⟩
end
end Go.Proofs.Ytcoppnbjpncdcaa.Q
end
section
set_option linter.unusedVariables false
set_option linter.unusedSimpArgs false
namespace Go.Proofs.Ytcoppnbjpncdcaa.Q
open Go Go.Conc
open Go.ConcR (mk KK WgAt wgBlock stA smA rd wr)
theorem x95_n : (Try.f95.name == "runtime.NumGoroutine") = false := by kernel_rfl
theorem x95_b : Try.f95.body.isNone = true := by kernel_rfl
theorem x95_x : Extern.findNext Try.f95 = none := by kernel_rfl
theorem x95_f : Extern.find Try.f95 = some (Extern.Atomic.update (Op.intArith .add) .u64 true) := by kernel_rfl
theorem x96_n : (Try.f96.name == "runtime.NumGoroutine") = false := by kernel_rfl
theorem x96_b : Try.f96.body.isNone = true := by kernel_rfl
theorem x96_x : Extern.findNext Try.f96 = none := by kernel_rfl
theorem x96_f : Extern.find Try.f96 = some (Extern.Atomic.loadT (.int .u64)) := by kernel_rfl
theorem x97_n : (Try.f97.name == "runtime.NumGoroutine") = false := by kernel_rfl
theorem x97_b : Try.f97.body.isNone = true := by kernel_rfl
theorem x97_x : Extern.findNext Try.f97 = none := by kernel_rfl
theorem x97_f : Extern.find Try.f97 = some (Extern.Atomic.storeT) := by kernel_rfl
theorem x100_n : (Try.f100.name == "runtime.NumGoroutine") = false := by kernel_rfl
theorem x100_b : Try.f100.body.isNone = true := by kernel_rfl
theorem x100_x : Extern.findNext Try.f100 = none := by kernel_rfl
theorem x100_f : Extern.find Try.f100 = some (Extern.Atomic.casT (.int .u64)) := by kernel_rfl
theorem x76_n : (Try.f76.name == "runtime.NumGoroutine") = false := by kernel_rfl
theorem x76_b : Try.f76.body.isNone = true := by kernel_rfl
theorem x76_x : Extern.findNext Try.f76 = none := by kernel_rfl
theorem x76_f : Extern.find Try.f76 = some (Extern.Race.marked .read) := by kernel_rfl
theorem x86_n : (Try.f86.name == "runtime.NumGoroutine") = false := by kernel_rfl
theorem x86_b : Try.f86.body.isNone = true := by kernel_rfl
theorem x86_x : Extern.findNext Try.f86 = none := by kernel_rfl
theorem x86_f : Extern.find Try.f86 = some (Extern.Race.marked .write) := by kernel_rfl
theorem x87_n : (Try.f87.name == "runtime.NumGoroutine") = false := by kernel_rfl
theorem x87_b : Try.f87.body.isNone = true := by kernel_rfl
theorem x87_x : Extern.findNext Try.f87 = none := by kernel_rfl
theorem x87_f : Extern.find Try.f87 = some (Extern.Sync.semacquire) := by kernel_rfl
theorem x80_n : (Try.f80.name == "runtime.NumGoroutine") = false := by kernel_rfl
theorem x80_b : Try.f80.body.isNone = true := by kernel_rfl
theorem x80_x : Extern.findNext Try.f80 = none := by kernel_rfl
theorem x80_f : Extern.find Try.f80 = some (Extern.Sync.semrelease) := by kernel_rfl
theorem x71_n : (Try.f71.name == "runtime.NumGoroutine") = false := by kernel_rfl
theorem x71_b : Try.f71.body.isNone = true := by kernel_rfl
theorem x71_x : Extern.findNext Try.f71 = none := by kernel_rfl
theorem x71_f : Extern.find Try.f71 = some (fun _ => pure (.bool false)) := by kernel_rfl
def sW (v wt : Nat) : Int := ((v * 4294967296 + wt : Nat) : Int)
theorem sW_eq (v wt : Nat) : ((v : Int) * KK + (wt : Int)) = sW v wt := by simp [sW, KK]
theorem all_vw {p : Nat → Nat → Bool} (h : ((List.range 17).all fun v => (List.range 2).all fun wt => p v wt) = true) {v wt : Nat} (hv : v < 17) (hw : wt ≤ 1) : p v wt = true :=
 List.all_eq_true.1 (List.all_eq_true.1 h v (List.mem_range.2 hv)) wt (List.mem_range.2 (by omega))
theorem w_top {v wt : Nat} (hv : v < 17) (hw : wt ≤ 1) : (bits .and .u64 (sW v wt) 2147483648 != 0) = false := by
 have := all_vw (p := fun v wt => (bits .and .u64 (sW v wt) 2147483648 != 0) == false) (by kernel_rfl) hv hw
 simpa using this
theorem w_v {v wt : Nat} (hv : v < 17) (hw : wt ≤ 1) : IntKind.i32.wrap ((sW v wt).fdiv 4294967296) = (v : Int) := by
 have := all_vw (p := fun v wt => IntKind.i32.wrap ((sW v wt).fdiv 4294967296) == (v : Int)) (by kernel_rfl) hv hw
 simpa using this
theorem w_w {v wt : Nat} (hv : v < 17) (hw : wt ≤ 1) : IntKind.u32.wrap (bits .and .u64 (sW v wt) 2147483647) = (wt : Int) := by
 have := all_vw (p := fun v wt => IntKind.u32.wrap (bits .and .u64 (sW v wt) 2147483647) == (wt : Int)) (by kernel_rfl) hv hw
 simpa using this
theorem w_dec {v wt : Nat} (hv : v < 16) (hw : wt ≤ 1) : IntKind.u64.wrap (sW (v + 1) wt + 18446744069414584320) = sW v wt := by
 have := all_vw (p := fun v wt => v == 16 || IntKind.u64.wrap (sW (v + 1) wt + 18446744069414584320) == sW v wt) (by kernel_rfl) (v := v) (by omega) hw
 have h16 : (v == 16) = false := by rw [beq_eq_false_iff_ne]; omega
 rw [h16, Bool.false_or, beq_iff_eq] at this
 exact this
theorem w_inc {v wt : Nat} (hv : v < 16) (hw : wt ≤ 1) : IntKind.u64.wrap (sW v wt + 4294967296) = sW (v + 1) wt := by
 have := all_vw (p := fun v wt => IntKind.u64.wrap (sW v wt + 4294967296) == sW (v + 1) wt) (by kernel_rfl) (v := v) (by omega) hw
 simpa using this
section
variable {w : World} {ρ : Operand → Value} {o : Oper}
theorem run_cv {s d : TypeId} {x : Operand} {k : IntKind} {a : Int} (k' : IntKind) (hop : o.op = .convert s d x) (hx : ρ x = .int k a) (h : (s = 3 ∧ d = 78 ∧ k' = .u64) ∨ (s = 78 ∧ d = 21 ∧ k' = .i32) ∨ (s = 78 ∧ d = 69 ∧ k' = .u32) ∨ (s = 3 ∧ d = 21 ∧ k' = .i32)) :
   (execOp ρ o).run Try.prog w = .ok (.value (.int k' (k'.wrap a))) w ∧ (execOp ρ o).events Try.prog w #[] = #[] := by
 unfold execOp
 simp only [hop, hx]
 rcases h with ⟨rfl, rfl, rfl⟩ | ⟨rfl, rfl, rfl⟩ | ⟨rfl, rfl, rfl⟩ | ⟨rfl, rfl, rfl⟩ <;> (constructor <;> simp [go_sem])
theorem run_shl {x : Operand} {a : Int} (hop : o.op = .binOp .shl 78 x (.const (.int .u64 32)) 104) (hx : ρ x = .int .u64 a) (hc : ∀ v, ρ (.const v) = v) :
   (execOp ρ o).run Try.prog w = .ok (.value (.int .u64 (IntKind.u64.wrap (a * 4294967296)))) w ∧ (execOp ρ o).events Try.prog w #[] = #[] := by
 unfold execOp
 simp only [hop, hx, hc]
 constructor <;> simp [go_sem, Go.binOp, eqGuard]
end
end Go.Proofs.Ytcoppnbjpncdcaa.Q
end
section
set_option linter.unusedVariables false
set_option linter.unusedSimpArgs false
namespace Go.Proofs.Ytcoppnbjpncdcaa.Q
open Go Go.Conc
open Go.ConcR (mk KK WgAt wgBlock stA smA rd wr)
section
variable {P : Program} {main : Bool} {R : World → World → Prop} {D : World → World → Array Event → Prop} {K : World → Prop} {Stop : Goroutine → World → Prop} {b : Frame} {cs : List Frame} {ds : List Deferred}
theorem Reach.opq (W : Way P R D K) (hb : b.kind ≠ .early) {n : Nat} {T : Array Value} {ops : Array Oper} {j : Nat} {is : List Nat} {k : List Item} {o : Oper} (v : Value) (ho : ops[j]? = some o) (hwn : Region.wanted o (yieldedT ops T) = true)
   (h1 : ∀ w, K w → (execOp (evalT T) o).run P w = .ok (.value v) w ∧ (execOp (evalT T) o).events P w #[] = #[])
   (h : Reach P main R D K Stop b cs ds n (putT T o.dst v) (.inRegion ops is :: k)) : Reach P main R D K Stop b cs ds (n + 1) T (.inRegion ops (j :: is) :: k) := by
 intro w hw
 refine Goes.step rfl fun w₁ h₁' => ?_
 have hw₁ := W.rely w w₁ hw h₁'
 rw [stepG_value (a := ⟨T, ds⟩) ho (wantedA hwn) hb (by rw [evalA]; exact (h1 w₁ hw₁).1), putA]
 have : listed P b.fn (Act.mk T ds) o w₁ = #[] := by unfold listed; rw [evalA, (h1 w₁ hw₁).2]; exact seen_none P _
 rw [this]
 exact ⟨W.idle w₁ hw₁, h w₁ hw₁⟩
theorem Reach.leave1 (W : Way P R D K) (hb : b.kind = .normal) {n : Nat} {T T₀ : Array Value} {ops : Array Oper} {i : Nat} {is : List Nat} {k : List Item} {fn : Func} {b₀ : Frame} {ds₀ : List Deferred} {t : Tmp} (hf : P.funcs[b.fn]? = some fn) (hr : fn.results = #[.tmp t])
   (h : Reach P main R D K Stop b₀ cs ds₀ n (putT T₀ ((ops[i]?).bind (·.dst)) (evalT T (.tmp t))) (.inRegion ops is :: k)) {k' : List Item} (hk : Ended k') :
   Reach P main R D K Stop b (b₀.at ⟨T₀, ds₀⟩ (.inRegion ops (i :: is) :: k) :: cs) [] (n + 2) T k' := by
 refine Reach.ret W hk fun w hK => ?_
 refine Goes.step rfl fun w₁ h₁ => ?_
 have hw₁ := W.rely w w₁ hK h₁
 refine goes_leave1 hb rfl hf hr ?_
 have hp : (Act.mk T₀ ds₀).put ((ops[i]?).bind (·.dst)) ((Act.mk T []).tmps.getD t undef) = ⟨putT T₀ ((ops[i]?).bind (·.dst)) (evalT T (.tmp t)), ds₀⟩ := by cases (ops[i]?).bind (·.dst) <;> rfl
 rw [hp]
 exact ⟨W.idle w₁ hw₁, h w₁ hw₁⟩
end
noncomputable def bot : Frame := { (default : Frame) with fn := Try.prog.funcs.size, mode := .panicking [goexitEntry] }
theorem botLast : Frame.catches Try.prog bot = false := by kernel_rfl
theorem q53 (T : Array Value) (l : List Item) : QuitsD Try.prog 2 0 (G { (baseD 53).at ⟨T, []⟩ l with mode := .returning } [bot]) := by
 refine QuitsD.ctl (g' := G bot []) rfl (fun w => ?_) ?_
 · simp [G, stepG, unwind, doReturn, results, Frame.at, baseD, bot, Try.func53, Try.f53, seen, GStep.after, goexitEntry]
 refine QuitsD.ctl (g' := { G bot [] with status := .finished }) rfl (fun w => ?_) ⟨rfl, rfl⟩
 have := botLast
 simp [G, stepG, unwind, bot, goexitEntry] at this ⊢
 simp [this]
 rfl
theorem q54 (T T' : Array Value) (ops : Array Oper) (l : List Item) : QuitsD Try.prog 5 0 (G ((baseD 54).at ⟨T, []⟩ (.inRegion ops [] :: [])) [{ (baseD 53).at ⟨T', []⟩ l with mode := .returning }, bot]) := by
 refine QuitsD.ctl rfl (fun w => stepG_region_end) ?_
 refine QuitsD.ctl rfl (fun w => stepG_end) ?_
 exact QuitsD.leaveD rfl rfl Try.func54 rfl rfl (q53 T' l)
theorem q52 (T T' T'' : Array Value) (ops : Array Oper) (j : Nat) (l l' l'' : List Item) (hl : Ended l) : QuitsD Try.prog 8 1 (G ((base 52).at ⟨T, [dcall 70 #[]]⟩ l) [(baseD 54).at ⟨T', []⟩ [.inRegion ops [j]], { (baseD 53).at ⟨T'', []⟩ l'' with mode := .returning }, bot]) := by
 refine QuitsD.ctl (g' := G { (base 52).at ⟨T, [dcall 70 #[]]⟩ l with mode := .returning } [(baseD 54).at ⟨T', []⟩ [.inRegion ops [j]], { (baseD 53).at ⟨T'', []⟩ l'' with mode := .returning }, bot]) rfl (fun w => ?_) ?_
 · rcases hl with rfl | ⟨k'', rfl⟩
   · exact stepG_end
   · exact stepG_ret'
 refine QuitsD.unwind_mark .enable rfl (by simp) rfl Try.func70 x70_n x70_b x70_x x70_f ?_
 refine QuitsD.leave0 rfl rfl Try.func52 rfl ?_
 have : deafBehind 1 #[⟨.mark .enable, false, true⟩] = 0 := by simp [deafBehind]
 rw [this, putA]
 exact q54 _ T'' ops l''
section
variable {P : Program} {main : Bool} {b : Frame} {cs : List Frame} {ds : List Deferred}
theorem evStep_step (hb : b.kind ≠ .early) {off : TypeId → Nat → Option Nat} (hoff : OffOk P off) {T T' : Array Value} {k k' : List Item} (he : evStep off T k = some (T', k')) (w : World) :
   stepG P main (G (b.at ⟨T, ds⟩ k) cs) w = .go (G (b.at ⟨T', ds⟩ k') cs) w #[] := by
 unfold evStep at he
 have cnd : ∀ {c : Operand} {t : Bool}, evalT T c = .bool t → (Act.mk T ds).eval c = .bool t := fun {c} {t} h => by cases c <;> exact h
 split at he
 · cases he; exact stepG_seq
 · cases he; exact stepG_skip
 · cases he; exact stepG_inBlock
 · cases he; exact stepG_block
 · cases he; exact stepG_loop
 · split at he
   · rename_i hx; cases he; exact stepG_exit hx
   · cases he
 · split at he
   · rename_i hx; cases he; exact stepG_cond (a := ⟨T, ds⟩) (t := true) (cnd hx)
   · rename_i hx; cases he; exact stepG_cond (a := ⟨T, ds⟩) (t := false) (cnd hx)
   · cases he
 · cases he; exact stepG_region
 · cases he; exact stepG_region_end
 · rename_i ops i is k
   split at he
   · cases he
   · rename_i o ho
     rw [← show yielded ops T = yieldedT ops T from funext (yielded_eq ops T)] at he
     split at he
     · rename_i hw
       split at he
       · rename_i v hv
         cases he
         have hs := evPure_sound (P := P) hoff hv w #[]
         have hp := Sem.runT_eq P (execOp (evalT T) o) w #[]
         rw [hs] at hp
         have h1 : (execOp (Act.mk T ds).eval o).run P w = .ok (.value v) w := by rw [evalA]; exact (congrArg Prod.fst hp).symm
         have h2 : (execOp (Act.mk T ds).eval o).events P w #[] = #[] := by rw [evalA]; exact (congrArg Prod.snd hp).symm
         rw [stepG_value ho hw hb h1]
         have h3 : listed P b.fn (Act.mk T ds) o w = #[] := by unfold listed; rw [h2]; exact seen_none P _
         rw [h3, putA]
       · cases he
     · rename_i hw
       cases he
       have := stepG_unwanted (P := P) (main := main) (b := b) (a := ⟨T, ds⟩) (k := k) (cs := cs) (w := w) (rest := is) ho (by simpa using hw)
       rw [putA] at this
       exact this
 · cases he
theorem quitsD_more : ∀ {n d : Nat} {g : Goroutine}, QuitsD P n d g → QuitsD P (n + 1) d g
 | 0, _, _, h => .inl h
 | n + 1, _, _, h => h.elim .inl fun ⟨hs, g', es, hm, hst, hq⟩ => .inr ⟨hs, g', es, hm, hst, quitsD_more hq⟩
theorem quitsD_le {n m d : Nat} {g : Goroutine} (h : QuitsD P n d g) (hn : n ≤ m) : QuitsD P m d g := by
 obtain ⟨k, rfl⟩ := Nat.exists_eq_add_of_le hn
 clear hn
 induction k with
 | zero => exact h
 | succ k ih => exact quitsD_more ih
abbrev QR (P : Program) (b : Frame) (cs : List Frame) (ds : List Deferred) (n d : Nat) (T : Array Value) (k : List Item) : Prop := QuitsD P n d (G (b.at ⟨T, ds⟩ k) cs)
theorem QR.runs (hb : b.kind ≠ .early) {off : TypeId → Nat → Option Nat} (hoff : OffOk P off) {n d : Nat} : ∀ (f : Nat) {T : Array Value} {k : List Item}, QR P b cs ds n d (evRun off f T k).1 (evRun off f T k).2 → QR P b cs ds (n + f) d T k
 | 0, T, k, h => h
 | f + 1, T, k, h => by
   simp only [evRun] at h
   cases hs : evStep off T k with
   | none => rw [hs] at h; exact quitsD_le h (by omega)
   | some x => rw [hs] at h; exact QuitsD.ctl rfl (fun w => evStep_step (T' := x.1) (k' := x.2) hb hoff hs w) (QR.runs hb hoff f h)
theorem QR.opq (hb : b.kind ≠ .early) {n d : Nat} {T : Array Value} {ops : Array Oper} {j : Nat} {is : List Nat} {k : List Item} {o : Oper} (v : Value) (ho : ops[j]? = some o) (hwn : Region.wanted o (yieldedT ops T) = true)
   (h1 : ∀ w, (execOp (evalT T) o).run P w = .ok (.value v) w ∧ (execOp (evalT T) o).events P w #[] = #[]) (h : QR P b cs ds n d (putT T o.dst v) (.inRegion ops is :: k)) : QR P b cs ds (n + 1) d T (.inRegion ops (j :: is) :: k) :=
 QuitsD.value (a := ⟨T, ds⟩) v ho (wantedA hwn) hb (fun w => by rw [evalA]; exact (h1 w).1) (fun w => by rw [evalA]; exact (h1 w).2) (by rw [putA]; exact h)
end
theorem b_shr32 (v : Int) : v.fdiv (2 ^ (min (32 : Int).toNat (IntKind.bits .u64))) = v.fdiv 4294967296 := by rfl
noncomputable def body52 : Code := Try.f52.body.getD .skip
noncomputable def c16 : Code := snd (snd (snd (snd body52)))
theorem e16 : c16 = snd (snd (snd (snd (Try.f52.body.getD .skip)))) := rfl
set_option maxHeartbeats 1000000 in
set_option maxRecDepth 100000 in
theorem s16Q {T : Array Value} {cs : List Frame} {v wt Wg : Nat} (hsz : T.size = 117) (h0 : evalT T (.tmp 0) = .pointer (some (stA Wg))) (h1 : evalT T (.tmp 1) = .int .i64 (-1)) (h4 : evalT T (.tmp 4) = .bool false) (h6 : evalT T (.tmp 6) = .int .u64 (sW v wt)) (hv16 : v < 16) (hwt : wt ≤ 1) (hn : ¬ (v = 0 ∧ wt = 1))
   (hQ : ∀ T l, Ended l → QR Try.prog (base 52) cs [dcall 70 #[]] 8 1 T l) : QR Try.prog (base 52) cs [dcall 70 #[]] 300 1 T [.code c16] := by
 have e := e16
 simp only [Try.f52, Option.getD_some, snd] at e
 rw [e]
 clear e
 have qt := w_top (v := v) (wt := wt) (by omega) hwt
 have qlt : decide ((v : Int) < 0) = false := decide_eq_false (by omega)
 have qfv := w_v (v := v) (wt := wt) (by omega) hwt
 have qfw := w_w (v := v) (wt := wt) (by omega) hwt
 rcases Nat.eq_zero_or_pos v with h | h
 · have qv : decide (0 < (v : Int)) = false := decide_eq_false (by omega)
   have qwn : ((wt : Int) != 0) = false := by rw [bne_eq_false_iff_eq]; omega
   have qwe : ((wt : Int) == 0) = true := by rw [beq_iff_eq]; omega
   refine quitsD_le (QR.runs (n := 200) (by simp [base]) (offP_ok _) 60 ?_) (by omega)
   simp only [evRun, evStep, zqa, Nat.reduceAdd, Nat.zero_add, List.range, List.range.loop, zqb, Region.wanted, ↓reduceIte, evPure, evalT_put, evalT_const, size_putT, hsz, Nat.reduceLT, Nat.reduceEqDiff, Option.bind_some, reduceCtorEq, intBin, yieldedT, some_ft, Bool.false_eq_true, h6, qt, b_shr32, Int.reduceLT]
   refine quitsD_le (QR.opq (n := 199) (by simp [base]) (.int .i32 (IntKind.i32.wrap ((sW v wt).fdiv 4294967296))) rfl rfl (fun w => run_cv (k := .u64) .i32 rfl (by simp only [↓reduceIte, evalT_put, size_putT, hsz, Nat.reduceLT]) (.inr (.inl ⟨rfl, rfl, rfl⟩))) ?_) (by omega)
   refine quitsD_le (QR.runs (n := 170) (by simp [base]) (offP_ok _) 29 ?_) (by omega)
   simp only [evRun, evStep, zqa, Nat.reduceAdd, Nat.zero_add, List.range, List.range.loop, zqb, zqc, Region.wanted, ↓reduceIte, evPure, evalT_put, evalT_const, size_putT, hsz, Nat.reduceLT, Nat.reduceEqDiff, reduceCtorEq, intBin, h6, qfv]
   refine quitsD_le (QR.opq (n := 169) (by simp [base]) (.int .u32 (IntKind.u32.wrap (bits .and .u64 (sW v wt) 2147483647))) rfl rfl (fun w => run_cv (k := .u64) .u32 rfl (by simp only [↓reduceIte, evalT_put, size_putT, hsz, Nat.reduceLT]) (.inr (.inr (.inl ⟨rfl, rfl, rfl⟩)))) ?_) (by omega)
   refine quitsD_le (QR.runs (n := 60) (by simp [base]) (offP_ok _) 109 ?_) (by omega)
   simp only [evRun, evStep, zqa, Nat.reduceAdd, Nat.zero_add, List.range, List.range.loop, zqb, zqc, Region.wanted, ↓reduceIte, evPure, evalT_put, evalT_const, size_putT, hsz, Nat.reduceLT, Nat.reduceEqDiff, Option.bind_some, reduceCtorEq, intBin, yieldedT, beq_self_eq_true, some_ft, Bool.false_eq_true, h1, qlt, qv, qfw, Int.reduceLT, Int.reduceNeg, decide_false, gt_iff_lt, qwn, qwe]
   exact quitsD_le (hQ _ _ (.inr ⟨_, rfl⟩)) (by omega)
 · have qv : decide (0 < (v : Int)) = true := decide_eq_true (by omega)
   cases qwn : ((wt : Int) != 0)
   · skip
     refine quitsD_le (QR.runs (n := 200) (by simp [base]) (offP_ok _) 60 ?_) (by omega)
     simp only [evRun, evStep, zqa, Nat.reduceAdd, Nat.zero_add, List.range, List.range.loop, zqb, Region.wanted, ↓reduceIte, evPure, evalT_put, evalT_const, size_putT, hsz, Nat.reduceLT, Nat.reduceEqDiff, Option.bind_some, reduceCtorEq, intBin, yieldedT, some_ft, Bool.false_eq_true, h6, qt, b_shr32, Int.reduceLT]
     refine quitsD_le (QR.opq (n := 199) (by simp [base]) (.int .i32 (IntKind.i32.wrap ((sW v wt).fdiv 4294967296))) rfl rfl (fun w => run_cv (k := .u64) .i32 rfl (by simp only [↓reduceIte, evalT_put, size_putT, hsz, Nat.reduceLT]) (.inr (.inl ⟨rfl, rfl, rfl⟩))) ?_) (by omega)
     refine quitsD_le (QR.runs (n := 170) (by simp [base]) (offP_ok _) 29 ?_) (by omega)
     simp only [evRun, evStep, zqa, Nat.reduceAdd, Nat.zero_add, List.range, List.range.loop, zqb, zqc, Region.wanted, ↓reduceIte, evPure, evalT_put, evalT_const, size_putT, hsz, Nat.reduceLT, Nat.reduceEqDiff, reduceCtorEq, intBin, h6, qfv]
     refine quitsD_le (QR.opq (n := 169) (by simp [base]) (.int .u32 (IntKind.u32.wrap (bits .and .u64 (sW v wt) 2147483647))) rfl rfl (fun w => run_cv (k := .u64) .u32 rfl (by simp only [↓reduceIte, evalT_put, size_putT, hsz, Nat.reduceLT]) (.inr (.inr (.inl ⟨rfl, rfl, rfl⟩)))) ?_) (by omega)
     refine quitsD_le (QR.runs (n := 60) (by simp [base]) (offP_ok _) 109 ?_) (by omega)
     simp only [evRun, evStep, zqa, Nat.reduceAdd, Nat.zero_add, List.range, List.range.loop, zqb, zqc, Region.wanted, ↓reduceIte, evPure, evalT_put, evalT_const, size_putT, hsz, Nat.reduceLT, Nat.reduceEqDiff, Option.bind_some, reduceCtorEq, intBin, yieldedT, beq_self_eq_true, some_ft, some_tf, Bool.false_eq_true, h1, qlt, qv, qfw, Int.reduceLT, Int.reduceNeg, decide_false, gt_iff_lt, qwn]
     exact quitsD_le (hQ _ _ (.inr ⟨_, rfl⟩)) (by omega)
   · skip
     refine quitsD_le (QR.runs (n := 200) (by simp [base]) (offP_ok _) 60 ?_) (by omega)
     simp only [evRun, evStep, zqa, Nat.reduceAdd, Nat.zero_add, List.range, List.range.loop, zqb, Region.wanted, ↓reduceIte, evPure, evalT_put, evalT_const, size_putT, hsz, Nat.reduceLT, Nat.reduceEqDiff, Option.bind_some, reduceCtorEq, intBin, yieldedT, some_ft, Bool.false_eq_true, h6, qt, b_shr32, Int.reduceLT]
     refine quitsD_le (QR.opq (n := 199) (by simp [base]) (.int .i32 (IntKind.i32.wrap ((sW v wt).fdiv 4294967296))) rfl rfl (fun w => run_cv (k := .u64) .i32 rfl (by simp only [↓reduceIte, evalT_put, size_putT, hsz, Nat.reduceLT]) (.inr (.inl ⟨rfl, rfl, rfl⟩))) ?_) (by omega)
     refine quitsD_le (QR.runs (n := 170) (by simp [base]) (offP_ok _) 29 ?_) (by omega)
     simp only [evRun, evStep, zqa, Nat.reduceAdd, Nat.zero_add, List.range, List.range.loop, zqb, zqc, Region.wanted, ↓reduceIte, evPure, evalT_put, evalT_const, size_putT, hsz, Nat.reduceLT, Nat.reduceEqDiff, reduceCtorEq, intBin, h6, qfv]
     refine quitsD_le (QR.opq (n := 169) (by simp [base]) (.int .u32 (IntKind.u32.wrap (bits .and .u64 (sW v wt) 2147483647))) rfl rfl (fun w => run_cv (k := .u64) .u32 rfl (by simp only [↓reduceIte, evalT_put, size_putT, hsz, Nat.reduceLT]) (.inr (.inr (.inl ⟨rfl, rfl, rfl⟩)))) ?_) (by omega)
     refine quitsD_le (QR.runs (n := 60) (by simp [base]) (offP_ok _) 109 ?_) (by omega)
     simp only [evRun, evStep, zqa, Nat.reduceAdd, Nat.zero_add, List.range, List.range.loop, zqb, zqc, Region.wanted, ↓reduceIte, evPure, evalT_put, evalT_const, size_putT, hsz, Nat.reduceLT, Nat.reduceEqDiff, Option.bind_some, reduceCtorEq, intBin, yieldedT, beq_self_eq_true, some_ft, some_tf, Bool.false_eq_true, h1, qlt, qv, qfw, Int.reduceLT, Int.reduceNeg, decide_false, gt_iff_lt, qwn]
     exact quitsD_le (hQ _ _ (.inr ⟨_, rfl⟩)) (by omega)
theorem stA_add0 (W : Nat) : (stA W).add 0 = stA W := rfl
theorem stA_add1 (W : Nat) : (stA W).add 1 = smA W := rfl
theorem wrap_u0 : IntKind.u32.wrap (1 - 1) = 0 := by decide
noncomputable def ops75 : Array Oper := opsOf (fst (snd (Try.f75.body.getD .skip)))
noncomputable def ops77 : Array Oper := opsOf (fst (snd (Try.f77.body.getD .skip)))
noncomputable def ops78 : Array Oper := opsOf (Try.f78.body.getD .skip)
noncomputable def ops85 : Array Oper := opsOf (fst (snd (Try.f85.body.getD .skip)))
section
variable {main : Bool} {R : World → World → Prop} {D : World → World → Array Event → Prop} {K : World → Prop} {Stop : Goroutine → World → Prop} {cs : List Frame} {Wg : Nat} {T : Array Value}
set_option maxHeartbeats 1000000 in
set_option maxRecDepth 100000 in
theorem at75 (W : Way Try.prog R D K) {d : Int} (hsz : T.size = 10) (h0 : evalT T (.tmp 0) = .pointer (some (stA Wg))) (h1 : evalT T (.tmp 1) = .int .u64 d)
   (h : ∀ T', T'.size = 10 → evalT T' (.tmp 7) = .pointer (some (stA Wg)) → evalT T' (.tmp 8) = .int .u64 d → Reach Try.prog main R D K Stop (base 75) cs [] 10 T' [.inRegion ops75 [4, 5], .code .ret]) : Reach Try.prog main R D K Stop (base 75) cs [] 40 T [.code (Try.f75.body.getD .skip)] := by
 have e : ops75 = opsOf (fst (snd (Try.f75.body.getD .skip))) := rfl
 simp only [Try.f75, Option.getD_some, snd, fst, opsOf] at e
 rw [e] at h
 simp only [Try.f75, Option.getD_some]
 refine Reach.more (n := 10 + 30) (by omega) (Reach.runs (n := 10) W (by simp [base]) (offP_ok _) 30 ?_)
 simp only [evRun, evStep, zqa, Nat.reduceAdd, Nat.zero_add, List.range, List.range.loop, zqb, Region.wanted, ↓reduceIte, evPure, evalT_put, evalT_const, size_putT, hsz, Nat.reduceLT, Nat.reduceEqDiff, reduceCtorEq, h0, h1, off80_2, stA_add0]
 refine h _ ?_ ?_ ?_
 all_goals simp only [↓reduceIte, evalT_put, size_putT, hsz, Nat.reduceLT, Nat.reduceEqDiff]
set_option maxHeartbeats 1000000 in
set_option maxRecDepth 100000 in
theorem at77 (W : Way Try.prog R D K) (hsz : T.size = 7) (h0 : evalT T (.tmp 0) = .pointer (some (stA Wg)))
   (h : ∀ T', T'.size = 7 → evalT T' (.tmp 5) = .pointer (some (stA Wg)) → Reach Try.prog main R D K Stop (base 77) cs [] 10 T' [.inRegion ops77 [3, 4], .code .ret]) : Reach Try.prog main R D K Stop (base 77) cs [] 40 T [.code (Try.f77.body.getD .skip)] := by
 have e : ops77 = opsOf (fst (snd (Try.f77.body.getD .skip))) := rfl
 simp only [Try.f77, Option.getD_some, snd, fst, opsOf] at e
 rw [e] at h
 simp only [Try.f77, Option.getD_some]
 refine Reach.more (n := 10 + 30) (by omega) (Reach.runs (n := 10) W (by simp [base]) (offP_ok _) 30 ?_)
 simp only [evRun, evStep, zqa, Nat.reduceAdd, Nat.zero_add, List.range, List.range.loop, zqb, Region.wanted, ↓reduceIte, evPure, evalT_put, evalT_const, size_putT, hsz, Nat.reduceLT, reduceCtorEq, h0, off80_2, stA_add0]
 refine h _ ?_ ?_
 all_goals simp only [↓reduceIte, evalT_put, size_putT, hsz, Nat.reduceLT]
set_option maxHeartbeats 1000000 in
set_option maxRecDepth 100000 in
theorem at78 (W : Way Try.prog R D K) {d : Int} (hsz : T.size = 9) (h0 : evalT T (.tmp 0) = .pointer (some (stA Wg))) (h1 : evalT T (.tmp 1) = .int .u64 d)
   (h : ∀ T', T'.size = 9 → evalT T' (.tmp 6) = .pointer (some (stA Wg)) → evalT T' (.tmp 7) = .int .u64 d → Reach Try.prog main R D K Stop (base 78) cs [] 10 T' [.inRegion ops78 [4]]) : Reach Try.prog main R D K Stop (base 78) cs [] 40 T [.code (Try.f78.body.getD .skip)] := by
 have e : ops78 = opsOf (Try.f78.body.getD .skip) := rfl
 simp only [Try.f78, Option.getD_some, opsOf] at e
 rw [e] at h
 simp only [Try.f78, Option.getD_some]
 refine Reach.more (n := 10 + 30) (by omega) (Reach.runs (n := 10) W (by simp [base]) (offP_ok _) 30 ?_)
 simp only [evRun, evStep, zqa, Nat.reduceAdd, Nat.zero_add, List.range, List.range.loop, zqb, Region.wanted, ↓reduceIte, evPure, evalT_put, size_putT, hsz, Nat.reduceLT, Nat.reduceEqDiff, h0, h1, off80_2, stA_add0]
 refine h _ ?_ ?_ ?_
 all_goals simp only [↓reduceIte, evalT_put, size_putT, hsz, Nat.reduceLT, Nat.reduceEqDiff]
set_option maxHeartbeats 1000000 in
set_option maxRecDepth 100000 in
theorem at85 (W : Way Try.prog R D K) {d d' : Int} (hsz : T.size = 13) (h0 : evalT T (.tmp 0) = .pointer (some (stA Wg))) (h1 : evalT T (.tmp 1) = .int .u64 d) (h2 : evalT T (.tmp 2) = .int .u64 d')
   (h : ∀ T', T'.size = 13 → evalT T' (.tmp 9) = .pointer (some (stA Wg)) → evalT T' (.tmp 10) = .int .u64 d → evalT T' (.tmp 11) = .int .u64 d' → Reach Try.prog main R D K Stop (base 85) cs [] 10 T' [.inRegion ops85 [5, 6], .code .ret]) : Reach Try.prog main R D K Stop (base 85) cs [] 40 T [.code (Try.f85.body.getD .skip)] := by
 have e : ops85 = opsOf (fst (snd (Try.f85.body.getD .skip))) := rfl
 simp only [Try.f85, Option.getD_some, snd, fst, opsOf] at e
 rw [e] at h
 simp only [Try.f85, Option.getD_some]
 refine Reach.more (n := 10 + 30) (by omega) (Reach.runs (n := 10) W (by simp [base]) (offP_ok _) 30 ?_)
 simp only [evRun, evStep, zqa, Nat.reduceAdd, Nat.zero_add, List.range, List.range.loop, zqb, Region.wanted, ↓reduceIte, evPure, evalT_put, evalT_const, size_putT, hsz, Nat.reduceLT, Nat.reduceEqDiff, reduceCtorEq, h0, h1, h2, off80_2, stA_add0]
 refine h _ ?_ ?_ ?_ ?_
 all_goals simp only [↓reduceIte, evalT_put, size_putT, hsz, Nat.reduceLT, Nat.reduceEqDiff]
set_option maxHeartbeats 1000000 in
set_option maxRecDepth 100000 in
theorem end75 (W : Way Try.prog R D K) {T₀ : Array Value} {ops : Array Oper} {i : Nat} {is : List Nat} {k : List Item} {b₀ : Frame} {ds₀ : List Deferred} {v : Value} {n : Nat} (hsz : T.size = 10) (h6 : evalT T (.tmp 9) = v)
   (h : Reach Try.prog main R D K Stop b₀ cs ds₀ n (putT T₀ ((ops[i]?).bind (·.dst)) v) (.inRegion ops is :: k)) : Reach Try.prog main R D K Stop (base 75) (b₀.at ⟨T₀, ds₀⟩ (.inRegion ops (i :: is) :: k) :: cs) [] (n + 10) T [.inRegion ops75 [5], .code .ret] := by
 have e : ops75 = opsOf (fst (snd (Try.f75.body.getD .skip))) := rfl
 simp only [Try.f75, Option.getD_some, snd, fst, opsOf] at e
 rw [e]
 refine Reach.more (n := (n + 2) + 8) (by omega) (Reach.runs (n := n + 2) W (by simp [base]) (offP_ok _) 8 ?_)
 simp only [evRun, evStep, zqb, Region.wanted, ↓reduceIte, evPure, h6]
 refine Reach.leave1 W rfl Try.func75 (t := 4) rfl ?_ (.inr ⟨_, rfl⟩)
 have : evalT (putT T (some 4) v) (.tmp 4) = v := by simp only [↓reduceIte, evalT_put, hsz, Nat.reduceLT]
 rw [this]
 exact h
set_option maxHeartbeats 1000000 in
set_option maxRecDepth 100000 in
theorem end77 (W : Way Try.prog R D K) {T₀ : Array Value} {ops : Array Oper} {i : Nat} {is : List Nat} {k : List Item} {b₀ : Frame} {ds₀ : List Deferred} {v : Value} {n : Nat} (hsz : T.size = 7) (h6 : evalT T (.tmp 6) = v)
   (h : Reach Try.prog main R D K Stop b₀ cs ds₀ n (putT T₀ ((ops[i]?).bind (·.dst)) v) (.inRegion ops is :: k)) : Reach Try.prog main R D K Stop (base 77) (b₀.at ⟨T₀, ds₀⟩ (.inRegion ops (i :: is) :: k) :: cs) [] (n + 10) T [.inRegion ops77 [4], .code .ret] := by
 have e : ops77 = opsOf (fst (snd (Try.f77.body.getD .skip))) := rfl
 simp only [Try.f77, Option.getD_some, snd, fst, opsOf] at e
 rw [e]
 refine Reach.more (n := (n + 2) + 8) (by omega) (Reach.runs (n := n + 2) W (by simp [base]) (offP_ok _) 8 ?_)
 simp only [evRun, evStep, zqb, Region.wanted, ↓reduceIte, evPure, h6]
 refine Reach.leave1 W rfl Try.func77 (t := 2) rfl ?_ (.inr ⟨_, rfl⟩)
 have : evalT (putT T (some 2) v) (.tmp 2) = v := by simp only [↓reduceIte, evalT_put, hsz, Nat.reduceLT]
 rw [this]
 exact h
set_option maxHeartbeats 1000000 in
set_option maxRecDepth 100000 in
theorem end85 (W : Way Try.prog R D K) {T₀ : Array Value} {ops : Array Oper} {i : Nat} {is : List Nat} {k : List Item} {b₀ : Frame} {ds₀ : List Deferred} {v : Value} {n : Nat} (hsz : T.size = 13) (h6 : evalT T (.tmp 12) = v)
   (h : Reach Try.prog main R D K Stop b₀ cs ds₀ n (putT T₀ ((ops[i]?).bind (·.dst)) v) (.inRegion ops is :: k)) : Reach Try.prog main R D K Stop (base 85) (b₀.at ⟨T₀, ds₀⟩ (.inRegion ops (i :: is) :: k) :: cs) [] (n + 10) T [.inRegion ops85 [6], .code .ret] := by
 have e : ops85 = opsOf (fst (snd (Try.f85.body.getD .skip))) := rfl
 simp only [Try.f85, Option.getD_some, snd, fst, opsOf] at e
 rw [e]
 refine Reach.more (n := (n + 2) + 8) (by omega) (Reach.runs (n := n + 2) W (by simp [base]) (offP_ok _) 8 ?_)
 simp only [evRun, evStep, zqb, Region.wanted, ↓reduceIte, evPure, h6]
 refine Reach.leave1 W rfl Try.func85 (t := 6) rfl ?_ (.inr ⟨_, rfl⟩)
 have : evalT (putT T (some 6) v) (.tmp 6) = v := by simp only [↓reduceIte, evalT_put, hsz, Nat.reduceLT]
 rw [this]
 exact h
end
section
variable {C : Cfg} {Kb : Nat → Prop} {i : Nat} {cs : List Frame}
theorem way0 : Way Try.prog (Ry C (· = i) Kb) D0 (Live C) := ⟨fun w w₁ h r => r.live h, fun w _ => ⟨rfl, rfl⟩⟩
theorem live_st {w : World} {st sm : Int} (h : Live C w) (hW : WgAt C.tW C.Wg w st sm) (A : C.Apart) (st' : Int) : Live C (w.setCell (stA C.Wg) (.int .u64 st')) := by
 obtain ⟨⟨m, ms, hm⟩, _, ⟨cs, hg, hgs⟩, ⟨ds, hh, hhs⟩⟩ := h
 exact ⟨⟨m, ms, (heap_set w _ _ _ A.fw).trans hm⟩, ⟨st', sm, hW.setSt st'⟩, ⟨cs, (heap_set w _ _ _ A.gw).trans hg, hgs⟩, ⟨ds, (heap_set w _ _ _ A.hw).trans hh, hhs⟩⟩
noncomputable def c27w : Code := snd (snd (snd (snd (snd (snd (snd c16))))))
noncomputable def c29w : Code := snd c27w
noncomputable def c30w : Code := snd c29w
theorem e30w : c30w = snd (snd (snd (snd (snd (snd (snd (snd (snd (snd (snd (snd (snd (Try.f52.body.getD .skip))))))))))))) := rfl
set_option maxHeartbeats 1000000 in
set_option maxRecDepth 100000 in
theorem s30 (A : C.Apart) {T : Array Value} (hsz : T.size = 117) (h0 : evalT T (.tmp 0) = .pointer (some (stA C.Wg))) (h4 : evalT T (.tmp 4) = .bool false) (h8 : evalT T (.tmp 8) = .int .u32 1) (hQ : ∀ T l, Ended l → QR Try.prog (base 52) cs [dcall 70 #[]] 8 1 T l) :
   Reach Try.prog false (Ry C (· = i) Kb) D0 (Live C) (WD4 C Try.prog) (base 52) cs [dcall 70 #[]] 100 T [.code c30w] := by
 have W := way0 (C := C) (Kb := Kb) (i := i)
 have e := e30w
 simp only [Try.f52, Option.getD_some, snd] at e
 rw [e]
 clear e
 refine Reach.more (n := 20 + 80) (by omega) (Reach.runs (n := 20) W (by simp [base]) (offP_ok _) 80 ?_)
 simp only [evRun, evStep, zqa, Nat.reduceAdd, Nat.zero_add, List.range, List.range.loop, zqb, Region.wanted, ↓reduceIte, evPure, evalT_put, evalT_const, size_putT, hsz, Nat.reduceLT, Nat.reduceEqDiff, reduceCtorEq, intBin, h0, h4, h8, Int.reduceBNe, off82_2, stA_add1]
 intro w hw
 refine Goes.stop fun w₁ h₁ => ⟨rfl, Go.ConcR.Gen.mayWake_entry rfl rfl Try.func80 x80_b, fun hWg => ?_⟩
 refine ⟨_, 100, (stepG_semrelease rfl (wantedA rfl) (by simp [base]) rfl Try.func80 x80_n x80_b x80_x x80_f (ad := smA C.Wg) ?hx hWg.cellSm (hWg.thaw 1)).trans (by rw [show IntKind.u32.wrap (0 + 1) = 1 by decide]), ?_⟩
 case hx => rw [evalA]; simp [evalT_put, size_putT, hsz]
 rw [putA]
 clear hWg
 simp only [zqc]
 refine quitsD_le (QR.runs (n := 50) (by simp [base]) (offP_ok _) 40 ?_) (by omega)
 simp only [evRun, evStep, zqa, Nat.reduceAdd, Nat.zero_add, List.range, List.range.loop, zqb, Region.wanted, ↓reduceIte, evPure, evalT_put, evalT_const, size_putT, hsz, Nat.reduceLT, Nat.reduceEqDiff, reduceCtorEq, intBin, h8, wrap_u0]
 refine quitsD_le (n := 49 + 1) (QuitsD.ctl rfl (fun w => stepG_inLoop) ?_) (by omega)
 refine quitsD_le (QR.runs (n := 10) (by simp [base]) (offP_ok _) 39 ?_) (by omega)
 simp only [evRun, evStep, exitTo, zqa, Nat.reduceAdd, Nat.zero_add, List.range, List.range.loop, zqb, Region.wanted, ↓reduceIte, evPure, evalT_put, evalT_const, size_putT, hsz, Nat.reduceLT, reduceCtorEq, intBin, beq_self_eq_true, bne_self_eq_false]
 exact quitsD_le (hQ _ _ (.inl rfl)) (by omega)
theorem e29w : c29w = .seq (fst (snd (snd (snd (snd (snd (snd (snd (snd (snd (snd (snd (snd (Try.f52.body.getD .skip))))))))))))) ) c30w := rfl
set_option maxHeartbeats 1000000 in
set_option maxRecDepth 100000 in
theorem s29 (A : C.Apart) {T : Array Value} (hsz : T.size = 117) (h0 : evalT T (.tmp 0) = .pointer (some (stA C.Wg))) (h4 : evalT T (.tmp 4) = .bool false) (h8 : evalT T (.tmp 8) = .int .u32 1) (hQ : ∀ T l, Ended l → QR Try.prog (base 52) cs [dcall 70 #[]] 8 1 T l) :
   Reach Try.prog false (Ry C (· = i) Kb) D0 (Live C) (WD3 C Try.prog Kb i) (base 52) cs [dcall 70 #[]] 100 T [.code c29w] := by
 have W := way0 (C := C) (Kb := Kb) (i := i)
 have e := e29w
 simp only [Try.f52, Option.getD_some, snd, fst] at e
 rw [e]
 clear e
 refine Reach.more (n := 41 + 59) (by omega) (Reach.runs (n := 41) W (by simp [base]) (offP_ok _) 59 ?_)
 simp only [evRun, evStep, zqa, Nat.reduceAdd, Nat.zero_add, List.range, List.range.loop, zqb, Region.wanted, ↓reduceIte, evPure, evalT_put, size_putT, hsz, Nat.reduceLT, h0, off82_1, stA_add0]
 refine Reach.more (n := 40 + 1) (by omega) (Reach.call W (by simp [base]) rfl rfl rfl Try.func78 (by kernel_rfl) (c := Try.f78.body.getD .skip) rfl ?_)
 refine at78 (d := 0) (Wg := C.Wg) W (size_slots _ _ (by simp [Try.f78])) ((evalT_slots _ _ _ (by simp)).trans (by simp [evalT_put, size_putT, hsz])) ((evalT_slots _ _ _ (by simp)).trans (by simp [evalT_const])) (fun T' hs6 g6 g7 => ?_)
 intro w hw
 refine Goes.stop fun w₁ h₁ => ⟨rfl, fun hWg => ?_⟩
 have hl := h₁.live hw
 have hl' := live_st hl hWg A 0
 refine ⟨_, 300, stepG_store_atomic (ops := ops78) (i := 4) (rest := []) rfl (wantedA rfl) (by simp [base]) rfl Try.func97 x97_n x97_b x97_x x97_f (by rw [evalA]; exact g6) (by rw [evalA]; exact g7) hWg.cellSt (hWg.thaw 0), ?_⟩
 rw [putA]
 refine (?_ : Reach Try.prog false (Ry C (· = i) Kb) D0 (Live C) (WD4 C Try.prog) (base 78) _ [] 300 _ [.inRegion ops78 []]) _ hl'
 refine Reach.more (n := 299 + 1) (by omega) (Reach.endRegion W ?_)
 refine Reach.more (n := 297 + 2) (by omega) (Reach.leave0 W rfl Try.func78 rfl ?_ (.inl rfl))
 refine Reach.more (n := 296 + 1) (by omega) (Reach.endRegion W ?_)
 refine Reach.more (n := 100) (by omega) (s30 A ?_ ?_ ?_ ?_ hQ)
 all_goals simp only [zqb, ↓reduceIte, evalT_put, size_putT, hsz, Nat.reduceLT, Nat.reduceEqDiff, Option.bind_some, reduceCtorEq, h0, h4, h8]
theorem e27w : c27w = .seq (fst (snd (snd (snd (snd (snd (snd (snd (snd (snd (snd (snd (Try.f52.body.getD .skip)))))))))))) ) c29w := rfl
set_option maxHeartbeats 1000000 in
set_option maxRecDepth 100000 in
theorem s27 (A : C.Apart) {T : Array Value} (hsz : T.size = 117) (h0 : evalT T (.tmp 0) = .pointer (some (stA C.Wg))) (h4 : evalT T (.tmp 4) = .bool false) (h8 : evalT T (.tmp 8) = .int .u32 1) {s : Int} (h6 : evalT T (.tmp 6) = .int .u64 s) (hs : ((1 : Int) != s) = false) (hQ : ∀ T l, Ended l → QR Try.prog (base 52) cs [dcall 70 #[]] 8 1 T l) :
   Reach Try.prog false (Ry C (· = i) Kb) D0 (Live C) (WD2 C Try.prog Kb i) (base 52) cs [dcall 70 #[]] 100 T [.code c27w] := by
 have W := way0 (C := C) (Kb := Kb) (i := i)
 have e := e27w
 simp only [Try.f52, Option.getD_some, snd, fst] at e
 rw [e]
 clear e
 refine Reach.more (n := 41 + 59) (by omega) (Reach.runs (n := 41) W (by simp [base]) (offP_ok _) 59 ?_)
 simp only [evRun, evStep, zqa, Nat.reduceAdd, Nat.zero_add, List.range, List.range.loop, zqb, Region.wanted, ↓reduceIte, evPure, evalT_put, size_putT, hsz, Nat.reduceLT, h0, off82_1, stA_add0]
 refine Reach.more (n := 40 + 1) (by omega) (Reach.call W (by simp [base]) rfl rfl rfl Try.func77 (by kernel_rfl) (c := Try.f77.body.getD .skip) rfl ?_)
 refine at77 (Wg := C.Wg) W (size_slots _ _ (by simp [Try.f77])) ((evalT_slots _ _ _ (by simp)).trans (by simp [evalT_put, size_putT, hsz])) (fun T' hs5 g5 => ?_)
 intro w hw
 refine Goes.stop fun w₁ h₁ => ⟨rfl, fun hWg => ?_⟩
 have hl := h₁.live hw
 refine ⟨_, 300, stepG_load_atomic (ops := ops77) (i := 3) (rest := [4]) rfl (wantedA rfl) (by simp [base]) rfl Try.func96 x96_n x96_b x96_x .u64 x96_f (by rw [evalA]; exact g5) hWg.cellSt, ?_⟩
 rw [putA]
 refine (?_ : Reach Try.prog false (Ry C (· = i) Kb) D0 (Live C) (WD3 C Try.prog Kb i) (base 77) _ [] 300 _ [.inRegion ops77 [4], .code .ret]) _ hl
 refine Reach.more (n := 200 + 10) (by omega) (end77 W (v := .int .u64 1) (by rw [size_putT]; exact hs5) ?_ ?_)
 · exact (evalT_put _ _ _ _ (by rw [hs5]; decide)).trans (if_pos rfl)
 refine Reach.more (n := 195 + 5) (by omega) (Reach.runs (n := 195) W (by simp [base]) (offP_ok _) 5 ?_)
 simp only [evRun, evStep, zqb, Region.wanted, ↓reduceIte, evPure, evalT_put, size_putT, hsz, Nat.reduceLT, Nat.reduceEqDiff, Option.bind_some, reduceCtorEq, intBin, h6, hs]
 refine Reach.more (n := 100) (by omega) (s29 A ?_ ?_ ?_ ?_ hQ)
 all_goals simp only [↓reduceIte, evalT_put, size_putT, hsz, Nat.reduceLT, Nat.reduceEqDiff, reduceCtorEq, h0, h4, h8]
theorem e16w : c16 = .seq (fst c16) (.seq (fst (snd c16)) (.seq (fst (snd (snd c16))) (.seq (fst (snd (snd (snd c16)))) (.seq (fst (snd (snd (snd (snd c16))))) (.seq (fst (snd (snd (snd (snd (snd c16)))))) (.seq (fst (snd (snd (snd (snd (snd (snd c16))))))) c27w)))))) := rfl
set_option maxHeartbeats 4000000 in
set_option maxRecDepth 100000 in
theorem s16D (A : C.Apart) {T : Array Value} {v wt : Nat} (hsz : T.size = 117) (h0 : evalT T (.tmp 0) = .pointer (some (stA C.Wg))) (h1 : evalT T (.tmp 1) = .int .i64 (-1)) (h4 : evalT T (.tmp 4) = .bool false) (h6 : evalT T (.tmp 6) = .int .u64 (sW v wt)) (hv : v = 0) (hwt : wt = 1)
   (hQ : ∀ T l, Ended l → QR Try.prog (base 52) cs [dcall 70 #[]] 8 1 T l) : Reach Try.prog false (Ry C (· = i) Kb) D0 (Live C) (WD2 C Try.prog Kb i) (base 52) cs [dcall 70 #[]] 300 T [.code c16] := by
 have W := way0 (C := C) (Kb := Kb) (i := i)
 have e := e16w
 have e0 : c16 = snd (snd (snd (snd (Try.f52.body.getD .skip)))) := rfl
 have e1 : fst c16 = fst (snd (snd (snd (snd (Try.f52.body.getD .skip))))) := rfl
 have e2 : fst (snd c16) = fst (snd (snd (snd (snd (snd (Try.f52.body.getD .skip)))))) := rfl
 have e3 : fst (snd (snd c16)) = fst (snd (snd (snd (snd (snd (snd (Try.f52.body.getD .skip))))))) := rfl
 have e4 : fst (snd (snd (snd c16))) = fst (snd (snd (snd (snd (snd (snd (snd (Try.f52.body.getD .skip)))))))) := rfl
 have e5 : fst (snd (snd (snd (snd c16)))) = fst (snd (snd (snd (snd (snd (snd (snd (snd (Try.f52.body.getD .skip))))))))) := rfl
 have e6 : fst (snd (snd (snd (snd (snd c16))))) = fst (snd (snd (snd (snd (snd (snd (snd (snd (snd (Try.f52.body.getD .skip)))))))))) := rfl
 have e7 : fst (snd (snd (snd (snd (snd (snd c16)))))) = fst (snd (snd (snd (snd (snd (snd (snd (snd (snd (snd (Try.f52.body.getD .skip))))))))))) := rfl
 rw [e, e1, e2, e3, e4, e5, e6, e7]
 clear e e0 e1 e2 e3 e4 e5 e6 e7
 simp only [Try.f52, Option.getD_some, snd, fst]
 have qt := w_top (v := v) (wt := wt) (by omega) (by omega)
 have qlt : decide ((v : Int) < 0) = false := decide_eq_false (by omega)
 have qfv := w_v (v := v) (wt := wt) (by omega) (by omega)
 have qfw := w_w (v := v) (wt := wt) (by omega) (by omega)
 have qv : decide (0 < (v : Int)) = false := decide_eq_false (by omega)
 have qwn : ((wt : Int) != 0) = true := by subst hwt; rfl
 have qwe : ((wt : Int) == 0) = false := by subst hwt; rfl
 have qs1 : ((1 : Int) != sW v wt) = false := by subst hv hwt; rfl
 refine Reach.more (n := 200 + 60) (by omega) (Reach.runs (n := 200) W (by simp [base]) (offP_ok _) 60 ?_)
 simp only [evRun, evStep, zqa, Nat.reduceAdd, Nat.zero_add, List.range, List.range.loop, zqb, Region.wanted, ↓reduceIte, evPure, evalT_put, evalT_const, size_putT, hsz, Nat.reduceLT, Nat.reduceEqDiff, Option.bind_some, reduceCtorEq, intBin, yieldedT, some_ft, Bool.false_eq_true, h6, qt, b_shr32, Int.reduceLT]
 refine Reach.more (n := 199 + 1) (by omega) (Reach.opq W (by simp [base]) (.int .i32 (IntKind.i32.wrap ((sW v wt).fdiv 4294967296))) rfl rfl (fun w _ => run_cv (k := .u64) .i32 rfl (by simp only [↓reduceIte, evalT_put, size_putT, hsz, Nat.reduceLT]) (.inr (.inl ⟨rfl, rfl, rfl⟩))) ?_)
 refine Reach.more (n := 170 + 29) (by omega) (Reach.runs (n := 170) W (by simp [base]) (offP_ok _) 29 ?_)
 simp only [evRun, evStep, zqa, Nat.reduceAdd, Nat.zero_add, List.range, List.range.loop, zqb, zqc, Region.wanted, ↓reduceIte, evPure, evalT_put, evalT_const, size_putT, hsz, Nat.reduceLT, Nat.reduceEqDiff, reduceCtorEq, intBin, h6, qfv]
 refine Reach.more (n := 169 + 1) (by omega) (Reach.opq W (by simp [base]) (.int .u32 (IntKind.u32.wrap (bits .and .u64 (sW v wt) 2147483647))) rfl rfl (fun w _ => run_cv (k := .u64) .u32 rfl (by simp only [↓reduceIte, evalT_put, size_putT, hsz, Nat.reduceLT]) (.inr (.inr (.inl ⟨rfl, rfl, rfl⟩)))) ?_)
 refine Reach.more (n := 100 + 56) (by omega) (Reach.runs (n := 100) W (by simp [base]) (offP_ok _) 56 ?_)
 simp only [evRun, evStep, zqa, Nat.reduceAdd, Nat.zero_add, List.range, List.range.loop, zqb, zqc, Region.wanted, ↓reduceIte, evPure, evalT_put, evalT_const, size_putT, hsz, Nat.reduceLT, Nat.reduceEqDiff, Option.bind_some, reduceCtorEq, intBin, yieldedT, beq_self_eq_true, some_ft, Bool.false_eq_true, h1, qlt, qv, qfw, Int.reduceLT, Int.reduceNeg, decide_false, gt_iff_lt, qwn, qwe]
 refine s27 (s := sW v wt) A ?_ ?_ ?_ ?_ ?_ qs1 hQ
 all_goals simp only [↓reduceIte, evalT_put, size_putT, hsz, Nat.reduceLT, Nat.reduceEqDiff, reduceCtorEq, h0, h4, h6]
 rw [hwt]; rfl
end
end Go.Proofs.Ytcoppnbjpncdcaa.Q
end
section
set_option linter.unusedVariables false
set_option linter.unusedSimpArgs false
namespace Go.Proofs.Ytcoppnbjpncdcaa.Q
open Go Go.Conc
open Go.ConcR (mk KK WgAt wgBlock stA smA rd wr)
theorem putT_none (T : Array Value) (v : Value) : putT T none v = T := rfl
theorem end75Q {T T₀ : Array Value} {cs : List Frame} {ops : Array Oper} {i : Nat} {is : List Nat} {k : List Item} {b₀ : Frame} {ds₀ : List Deferred} {v : Value} {n d : Nat} (hsz : T.size = 10) (h6 : evalT T (.tmp 9) = v)
   (h : QR Try.prog b₀ cs ds₀ n d (putT T₀ ((ops[i]?).bind (·.dst)) v) (.inRegion ops is :: k)) : QR Try.prog (base 75) (b₀.at ⟨T₀, ds₀⟩ (.inRegion ops (i :: is) :: k) :: cs) [] (n + 10) d T [.inRegion ops75 [5], .code .ret] := by
 have e : ops75 = opsOf (fst (snd (Try.f75.body.getD .skip))) := rfl
 simp only [Try.f75, Option.getD_some, snd, fst, opsOf] at e
 rw [e]
 refine quitsD_le (QR.runs (n := n + 2) (by simp [base]) (offP_ok _) 8 ?_) (by omega)
 simp only [evRun, evStep, zqb, Region.wanted, ↓reduceIte, evPure, h6]
 refine quitsD_le (n := (n + 1) + 1) (QuitsD.ctl rfl (fun w => stepG_ret') ?_) (by omega)
 refine QuitsD.leave1 (t := 4) rfl rfl Try.func75 rfl ?_
 rw [putA]
 have : (Act.mk (putT T (some 4) v) []).tmps.getD 4 undef = v := by
   have h2 : evalT (putT T (some 4) v) (.tmp 4) = v := by simp only [↓reduceIte, evalT_put, hsz, Nat.reduceLT]
   exact h2
 rw [this]
 exact h
section
variable {C : Cfg} {vals : Nat → Value × Value × Value} {Kb : Nat → Prop} {i : Nat}
structure KH (C : Cfg) (vals : Nat → Value × Value × Value) (i : Nat) (w : World) : Prop where
 live : Live C w
 has : Has C vals i w
theorem wayH : Way Try.prog (Ry C (· = i) Kb) (Dk C Kb i) (KH C vals i) := ⟨fun w w₁ h r => ⟨r.live h.live, (r.own i _ rfl ⟨rfl, .inl ⟨rfl, .inl rfl⟩⟩).trans h.has.1, (r.own i _ rfl ⟨rfl, .inl ⟨rfl, .inr rfl⟩⟩).trans h.has.2.1, (r.own i _ rfl ⟨rfl, .inr ⟨rfl, rfl⟩⟩).trans h.has.2.2⟩, fun w _ => ⟨Wr.refl C i w, by simp⟩⟩
theorem run_unsafe96 {w : World} {ρ : Operand → Value} {o : Oper} {x : Operand} {Wg : Nat} {ty : TypeId} {st sm : Int} (hop : o.op = .convert 96 98 x) (hx : ρ x = .pointer (some (stA Wg))) (hw : WgAt ty Wg w st sm) :
   (execOp ρ o).run Try.prog w = .ok (.value (.pointer (some (stA Wg)))) w ∧ (execOp ρ o).events Try.prog w #[] = #[] := by
 have hz : (Try.prog.info? 82).map (fun i => decide (i.size = 0)) = some false := by kernel_rfl
 have hu : Try.prog.underlying 96 = some (.pointer 82) := by kernel_rfl
 have hd : Try.prog.underlying 98 = some .unsafePointer := by kernel_rfl
 unfold execOp
 simp only [hop, hx]
 constructor
 · simp [go_sem, run_convert_to_unsafe (P := Try.prog) hu hd hz hw.cellSt]
 · simp [go_sem, events_convert_to_unsafe (P := Try.prog) hu hd hz hw.cellSt]
theorem run_unsafe105 {w : World} {ρ : Operand → Value} {o : Oper} {x : Operand} {Wg : Nat} {ty : TypeId} {st sm : Int} (hop : o.op = .convert 105 98 x) (hx : ρ x = .pointer (some (smA Wg))) (hw : WgAt ty Wg w st sm) :
   (execOp ρ o).run Try.prog w = .ok (.value (.pointer (some (smA Wg)))) w ∧ (execOp ρ o).events Try.prog w #[] = #[] := by
 have hz : (Try.prog.info? 69).map (fun i => decide (i.size = 0)) = some false := by kernel_rfl
 have hu : Try.prog.underlying 105 = some (.pointer 69) := by kernel_rfl
 have hd : Try.prog.underlying 98 = some .unsafePointer := by kernel_rfl
 unfold execOp
 simp only [hop, hx]
 constructor
 · simp [go_sem, run_convert_to_unsafe (P := Try.prog) hu hd hz hw.cellSm]
 · simp [go_sem, events_convert_to_unsafe (P := Try.prog) hu hd hz hw.cellSm]
theorem cv_neg {w : World} {ρ : Operand → Value} {o : Oper} {x : Operand} (hop : o.op = .convert 3 78 x) (hx : ρ x = .int .i64 (-1)) :
   (execOp ρ o).run Try.prog w = .ok (.value (.int .u64 18446744073709551615)) w ∧ (execOp ρ o).events Try.prog w #[] = #[] := by
 have h := run_cv (w := w) .u64 hop hx (.inl ⟨rfl, rfl, rfl⟩)
 rw [show IntKind.u64.wrap (-1) = 18446744073709551615 by decide] at h
 exact h
theorem shl_neg {w : World} {ρ : Operand → Value} {o : Oper} {x : Operand} (hop : o.op = .binOp .shl 78 x (.const (.int .u64 32)) 104) (hx : ρ x = .int .u64 18446744073709551615) (hc : ∀ v, ρ (.const v) = v) :
   (execOp ρ o).run Try.prog w = .ok (.value (.int .u64 18446744069414584320)) w ∧ (execOp ρ o).events Try.prog w #[] = #[] := by
 have h := run_shl (w := w) hop hx hc
 rw [show IntKind.u64.wrap (18446744073709551615 * 4294967296) = 18446744069414584320 by decide] at h
 exact h
theorem cv_one {w : World} {ρ : Operand → Value} {o : Oper} {x : Operand} (hop : o.op = .convert 3 78 x) (hx : ρ x = .int .i64 1) :
   (execOp ρ o).run Try.prog w = .ok (.value (.int .u64 1)) w ∧ (execOp ρ o).events Try.prog w #[] = #[] := by
 have h := run_cv (w := w) .u64 hop hx (.inl ⟨rfl, rfl, rfl⟩)
 rw [show IntKind.u64.wrap 1 = 1 by decide] at h
 exact h
theorem shl_one {w : World} {ρ : Operand → Value} {o : Oper} {x : Operand} (hop : o.op = .binOp .shl 78 x (.const (.int .u64 32)) 104) (hx : ρ x = .int .u64 1) (hc : ∀ v, ρ (.const v) = v) :
   (execOp ρ o).run Try.prog w = .ok (.value (.int .u64 4294967296)) w ∧ (execOp ρ o).events Try.prog w #[] = #[] := by
 have h := run_shl (w := w) hop hx hc
 rw [show IntKind.u64.wrap (1 * 4294967296) = 4294967296 by decide] at h
 exact h
theorem e52 : body52 = .seq (fst (Try.f52.body.getD .skip)) (.seq (fst (snd (Try.f52.body.getD .skip))) (.seq (fst (snd (snd (Try.f52.body.getD .skip)))) (.seq (fst (snd (snd (snd (Try.f52.body.getD .skip))))) c16))) := rfl
set_option maxHeartbeats 4000000 in
set_option maxRecDepth 100000 in
theorem add1 (A : C.Apart) {cs : List Frame} (hQ : ∀ T l, Ended l → QR Try.prog (base 52) cs [dcall 70 #[]] 8 1 T l) {T : Array Value} (hsz : T.size = 117) (h0 : evalT T (.tmp 0) = .pointer (some (stA C.Wg))) (h1 : evalT T (.tmp 1) = .int .i64 (-1)) :
   Reach Try.prog false (Ry C (· = i) Kb) (Dk C Kb i) (KH C vals i) (WR0 C Try.prog vals Kb i) (base 52) cs [] 100 T [.code body52] := by
 have W := wayH (C := C) (vals := vals) (Kb := Kb) (i := i)
 have W0 := way0 (C := C) (Kb := Kb) (i := i)
 rw [e52]
 simp only [Try.f52, Option.getD_some, snd, fst]
 refine Reach.more (n := 50 + 50) (by omega) (Reach.runs (n := 50) W (by simp [base]) (offP_ok _) 50 ?_)
 simp only [evRun, evStep, zqa, Nat.reduceAdd, Nat.zero_add, List.range, List.range.loop, zqb, Region.wanted, ↓reduceIte, evPure, evalT_put, evalT_const, size_putT, hsz, Nat.reduceLT, reduceCtorEq, intBin, h0, h1, Int.reduceLT, Int.reduceNeg, decide_true]
 refine Reach.more (n := 49 + 1) (by omega) (Reach.opq W (by simp [base]) (.pointer (some (stA C.Wg))) rfl rfl (fun w hw => let ⟨_, _, hg⟩ := hw.live.wg; run_unsafe96 rfl (by simp only [↓reduceIte, evalT_put, size_putT, hsz, Nat.reduceLT]) hg) ?_)
 intro w hw
 refine Goes.stop fun w₁ h₁ => ?_
 have hw₁ := W.rely w w₁ hw h₁
 refine ⟨rfl, hw₁.has, _, 100, stepG_markAt .releaseMerge (by simp) rfl (wantedA rfl) (by simp [base]) rfl Try.func68 x68_n x68_b x68_x x68_f (ad := stA C.Wg) (by rw [evalA]; simp [evalT_put, size_putT, hsz]), ?_⟩
 rw [putA]
 refine (?_ : Reach Try.prog false (Ry C (· = i) Kb) D0 (Live C) (WK1 C Try.prog Kb i) (base 52) cs [] 100 _ _) _ hw₁.live
 refine Reach.more (n := 50 + 50) (by omega) (Reach.runs (n := 50) W0 (by simp [base]) (offP_ok _) 50 ?_)
 simp only [evRun, evStep, zqa, Nat.zero_add, List.range, List.range.loop, List.getElem?_toArray, List.getElem?_cons_zero, zqc, Region.wanted, ↓reduceIte, evPure, Int.reduceNeg]
 clear hw₁ h₁ hw
 intro w hw
 refine Goes.stop fun w₁ h₁ => ?_
 have hw₁ := W0.rely w w₁ hw h₁
 refine ⟨rfl, _, 200, stepG_mark0 .disable (by simp) rfl (wantedA rfl) (by simp [base]) rfl Try.func69 x69_n x69_b x69_x x69_f, ?_⟩
 rw [putA]
 refine (?_ : Reach Try.prog false (Ry C (· = i) Kb) D0 (Live C) (WD1 C Try.prog Kb i) (base 52) cs [] 200 _ _) _ hw₁
 refine Reach.more (n := 190 + 10) (by omega) (Reach.runs (n := 190) W0 (by simp [base]) (offP_ok _) 10 ?_)
 simp only [evRun, evStep, zqa, Nat.zero_add, List.range, List.range.loop, List.getElem?_toArray, List.getElem?_cons_zero, List.getElem_toArray, List.getElem_cons_zero, Region.wanted, ↓reduceIte, evPure, Int.reduceNeg]
 refine Reach.more (n := 189 + 1) (by omega) (Reach.defer W0 (by simp [base]) rfl rfl rfl ?_)
 rw [show ∀ f : Operand → Value, (#[] : Array Operand).map f = #[] from fun f => by simp]
 refine Reach.more (n := 170 + 19) (by omega) (Reach.runs (n := 170) W0 (by simp [base]) (offP_ok _) 19 ?_)
 simp only [evRun, evStep, zqa, Nat.zero_add, List.range, List.range.loop, List.getElem?_toArray, List.getElem?_cons_zero, List.getElem_toArray, List.getElem_cons_zero, Region.wanted, ↓reduceIte, evPure, evalT_const, putT_none, Int.reduceNeg]
 refine Reach.more (n := 169 + 1) (by omega) (Reach.nothing W0 (by simp [base]) _ rfl rfl rfl Try.func71 x71_n x71_b x71_x x71_f ?_)
 refine Reach.more (n := 120 + 49) (by omega) (Reach.runs (n := 120) W0 (by simp [base]) (offP_ok _) 49 ?_)
 simp only [evRun, evStep, zqa, Nat.reduceAdd, Nat.zero_add, List.range, List.range.loop, zqb, List.getElem_toArray, List.getElem_cons_zero, Region.wanted, ↓reduceIte, evPure, evalT_put, size_putT, hsz, Nat.reduceLT, Nat.reduceEqDiff, reduceCtorEq, h0, h1, Int.reduceNeg, off82_1, stA_add0]
 refine Reach.more (n := 119 + 1) (by omega) (Reach.opq W0 (by simp [base]) (.int .u64 18446744073709551615) rfl rfl (fun w _ => cv_neg rfl (by simp only [↓reduceIte, evalT_put, size_putT, hsz, Nat.reduceLT])) ?_)
 refine Reach.more (n := 118 + 1) (by omega) (Reach.opq W0 (by simp [base]) (.int .u64 18446744069414584320) rfl rfl (fun w _ => shl_neg rfl (by simp only [zqc, ↓reduceIte, evalT_put, size_putT, hsz, Nat.reduceLT]) (fun _ => rfl)) ?_)
 refine Reach.more (n := 40 + 1) (by omega) (Reach.call W0 (by simp [base]) rfl rfl rfl Try.func75 (by kernel_rfl) (c := Try.f75.body.getD .skip) rfl ?_)
 refine at75 (d := 18446744069414584320) (Wg := C.Wg) W0 (size_slots _ _ (by simp [Try.f75])) ((evalT_slots _ _ _ (by simp)).trans (by simp [evalT_put, size_putT, hsz])) ((evalT_slots _ _ _ (by simp)).trans ?hd) (fun T' hs7 g7 g8 => ?_)
 case hd => simp [evalT_put, size_putT, hsz]
 clear hw₁ h₁ hw
 intro w hw
 refine Goes.stop fun w₁ h₁ => ?_
 have hw₁ := W0.rely w w₁ hw h₁
 refine ⟨rfl, fun v wt hwt hv hWg => ?_⟩
 have hWg' : WgAt C.tW C.Wg w₁ (sW (v + 1) wt) 0 := by rw [← sW_eq]; simpa using hWg
 have e0 := w_dec hv hwt
 rw [sW_eq]
 refine ⟨_, (stepG_add_atomic (ops := ops75) (i := 4) (rest := [5]) rfl (wantedA rfl) (by simp [base]) rfl Try.func95 x95_n x95_b x95_x .u64 x95_f (by rw [evalA]; exact g7) (by rw [evalA]; exact g8) hWg'.cellSt (hWg'.thaw 0)).trans (by rw [e0]; rfl), fun hl => ?_, fun hn => ?_⟩
 · have hl' := live_st hw₁ hWg A (sW v wt)
   rw [putA]
   refine ⟨420, (?_ : Reach Try.prog false (Ry C (· = i) Kb) D0 (Live C) (WD2 C Try.prog Kb i) (base 75) _ [] 420 _ [.inRegion ops75 [5], .code .ret]) _ hl'⟩
   refine Reach.more (n := 400 + 10) (by omega) (end75 W0 (v := .int .u64 (sW v wt)) (by rw [size_putT]; exact hs7) ((evalT_put _ _ _ _ (by rw [hs7]; decide)).trans (if_pos rfl)) ?_)
   refine Reach.more (n := 300 + 2) (by omega) (Reach.runs (n := 300) W0 (by simp [base]) (offP_ok _) 2 ?_)
   simp only [evRun, evStep, zqb, zqc, Region.wanted, ↓reduceIte, evPure, evalT_put, size_putT, hsz, Nat.reduceLT, Option.bind_some]
   refine s16D A ?_ ?_ ?_ ?_ ?_ hl.1 hl.2 hQ
   all_goals simp only [↓reduceIte, evalT_put, size_putT, hsz, Nat.reduceLT, Nat.reduceEqDiff, reduceCtorEq, h0, h1]
 · rw [putA]
   refine ⟨420, (?_ : QR Try.prog (base 75) _ [] 420 1 _ [.inRegion ops75 [5], .code .ret])⟩
   refine quitsD_le (end75Q (n := 400) (v := .int .u64 (sW v wt)) (by rw [size_putT]; exact hs7) ((evalT_put _ _ _ _ (by rw [hs7]; decide)).trans (if_pos rfl)) ?_) (by omega)
   refine quitsD_le (QR.runs (n := 300) (by simp [base]) (offP_ok _) 2 ?_) (by omega)
   simp only [evRun, evStep, zqb, zqc, Region.wanted, ↓reduceIte, evPure, evalT_put, size_putT, hsz, Nat.reduceLT, Option.bind_some]
   refine s16Q (Wg := C.Wg) ?_ ?_ ?_ ?_ ?_ hv hwt hn hQ
   all_goals simp only [↓reduceIte, evalT_put, size_putT, hsz, Nat.reduceLT, Nat.reduceEqDiff, reduceCtorEq, h0, h1]
theorem doneOk (A : C.Apart) {T T₁ : Array Value} {l : List Item} (hsz : T.size = 4) (h0 : evalT T (.tmp 0) = .pointer (some (stA C.Wg))) :
   Reach Try.prog false (Ry C (· = i) Kb) (Dk C Kb i) (KH C vals i) (WR0 C Try.prog vals Kb i) (baseD 54) [{ (baseD 53).at ⟨T₁, []⟩ l with mode := .returning }, bot] [] 150 T [.code (Try.f54.body.getD .skip)] := by
 have W := wayH (C := C) (vals := vals) (Kb := Kb) (i := i)
 simp only [Try.f54, Option.getD_some]
 refine Reach.more (n := 101 + 49) (by omega) (Reach.runs (n := 101) W (by simp [baseD]) (offP_ok _) 49 ?_)
 simp only [evRun, evStep, zqa, Nat.reduceAdd, Nat.zero_add, List.range, List.range.loop, zqb, Region.wanted, ↓reduceIte, evPure, h0]
 refine Reach.call W (by simp [baseD]) rfl rfl rfl Try.func52 (by kernel_rfl) (c := body52) rfl ?_
 refine add1 A (fun T l hl => q52 _ _ _ _ _ _ [] _ hl) (size_slots _ _ (by simp [Try.f52])) ?_ ?_
 · refine (evalT_slots _ _ _ (by simp)).trans ?_
   simp [evalT_put, hsz]
 · refine (evalT_slots _ _ _ (by simp)).trans ?_
   simp [evalT_const]
end
end Go.Proofs.Ytcoppnbjpncdcaa.Q
end
section
set_option linter.unusedVariables false
set_option linter.unusedSimpArgs false
namespace Go.Proofs.Ytcoppnbjpncdcaa.Q
open Go Go.Conc
open Go.ConcR (mk KK WgAt wgBlock stA smA rd wr)
structure Job where
 bf : Nat
 bl : Nat
 bi : Nat
 br : Nat
 x : Int
 y : Int
 least : Int
 lo : Nat
section
variable (C : Cfg) (J : Job) (i : Nat)
def Job.k0 : Nat → Prop := fun b => b = J.bf ∨ b = J.bl
def Job.kb : Nat → Prop := KbI J.k0 J.bi J.br
def Job.long : Prop := IntKind.i64.wrap (J.y - J.x) ≥ J.least
open Classical in
noncomputable def Job.fin : Value × Value × Value := if J.long then (.int .i64 J.x, .int .i64 J.y, .bool true) else (.int .i64 0, .int .i64 0, .bool false)
structure WK (w : World) : Prop where
 live : Live C w
 f : w.cell? ⟨J.bf, 0, none⟩ = some (.pointer (some ⟨C.F, 0, none⟩))
 ii : w.cell? ⟨J.bi, 0, none⟩ = some (.int .i64 i)
 r0 : w.cell? ⟨J.br, 0, none⟩ = some (.int .i64 J.x)
 r1 : w.cell? ⟨J.br, 1, none⟩ = some (.int .i64 J.y)
 l : w.cell? ⟨J.bl, J.lo, none⟩ = some (.int .i64 J.least)
 z0 : w.cell? ⟨C.G, 2 * i, none⟩ = some (.int .i64 0)
 z1 : w.cell? ⟨C.G, 2 * i + 1, none⟩ = some (.int .i64 0)
 z2 : w.cell? ⟨C.H, i, none⟩ = some (.bool false)
structure WK2 (bk : Nat) (w : World) : Prop where
 k : WK C J i w
 k0 : w.cell? ⟨bk, 0, none⟩ = some (.int .i64 J.x)
 k1 : w.cell? ⟨bk, 1, none⟩ = some (.int .i64 J.y)
end
theorem lt_of_cell {w : World} {a : Addr} {v : Value} (h : w.cell? a = some v) : a.block < w.heap.size := by
 refine Nat.lt_of_not_le fun hle => ?_
 unfold World.cell? at h
 rw [Array.getElem?_eq_none hle] at h
 cases h
theorem cell_rely {C : Cfg} {me Kb : Nat → Prop} {w w₁ : World} (r : Ry C me Kb w w₁) {a : Addr} {v : Value} (hb : Kb a.block) (h : w.cell? a = some v) : w₁.cell? a = some v :=
 (cell_of_block' (r.low _ hb (lt_of_cell h))).trans h
section
variable {C : Cfg} {J : Job} {i bk : Nat}
theorem WK.rely {Kb : Nat → Prop} (hk : ∀ b, J.kb b → Kb b) (w w₁ : World) (h : WK C J i w) (r : Ry C (· = i) Kb w w₁) : WK C J i w₁ :=
 ⟨r.live h.live, cell_rely r (hk _ (.inl (.inl rfl))) h.f, cell_rely r (hk _ (.inr (.inl rfl))) h.ii, cell_rely r (hk _ (.inr (.inr rfl))) h.r0, cell_rely r (hk _ (.inr (.inr rfl))) h.r1, cell_rely r (hk _ (.inl (.inr rfl))) h.l,
   (r.own i _ rfl ⟨rfl, .inl ⟨rfl, .inl rfl⟩⟩).trans h.z0, (r.own i _ rfl ⟨rfl, .inl ⟨rfl, .inr rfl⟩⟩).trans h.z1, (r.own i _ rfl ⟨rfl, .inr ⟨rfl, rfl⟩⟩).trans h.z2⟩
abbrev Kb2 (J : Job) (bk : Nat) : Nat → Prop := fun b => J.kb b ∨ b = bk
theorem WK2.rely (w w₁ : World) (h : WK2 C J i bk w) (r : Ry C (· = i) (Kb2 J bk) w w₁) : WK2 C J i bk w₁ :=
 ⟨h.k.rely (fun b hb => .inl hb) w w₁ r, cell_rely r (.inr rfl) h.k0, cell_rely r (.inr rfl) h.k1⟩
theorem dk_all {Kb : Nat → Prop} (w : World) (es : Array Event) (h : ∀ e ∈ es, Dk C Kb i w w #[e]) : Dk C Kb i w w es := ⟨Wr.refl C i w, fun e he => (h e he).2 e (by simp)⟩
theorem dk_read {Kb : Nat → Prop} {w : World} {a : Addr} {v : Value} (hb : Kb a.block) (h : w.cell? a = some v) : Dk C Kb i w w #[⟨.cell a, false, false⟩] :=
 ⟨Wr.refl C i w, fun e he => by rw [Array.mem_singleton] at he; subst he; exact ⟨a, false, rfl, lt_of_cell h, .inr ⟨rfl, .inl hb⟩⟩⟩
theorem dk_readF {Kb : Nat → Prop} {w : World} {a : Addr} {v : Value} (hb : a.block = C.F) (ho : 2 ≤ a.off) (h : w.cell? a = some v) : Dk C Kb i w w #[⟨.cell a, false, false⟩] :=
 ⟨Wr.refl C i w, fun e he => by rw [Array.mem_singleton] at he; subst he; exact ⟨a, false, rfl, lt_of_cell h, .inr ⟨rfl, .inr ⟨hb, ho⟩⟩⟩⟩
structure Geo2 (C : Cfg) (J : Job) (i : Nat) : Prop where
 apart : C.Apart
 gv : C.gv = .slice (some ⟨C.G, 0, none⟩) C.n C.n
 hv : C.hv = .slice (some ⟨C.H, 0, none⟩) C.n C.n
 lt : i < C.n
 f : J.bf ≠ C.F ∧ J.bl ≠ C.F ∧ J.bi ≠ C.F ∧ J.br ≠ C.F
abbrev FinW (C : Cfg) (vals : Nat → Value × Value × Value) (Kb : Nat → Prop) (i : Nat) : Goroutine → World → Prop := fun g w => ∃ f, GW C Try.prog Kb i (WR0 C Try.prog vals Kb i) f g w
theorem kh_ctx {vals : Nat → Value × Value × Value} {Kb : Nat → Prop} (A : C.Apart) (hF : ¬ Kb C.F) : Ctx C Kb i (KH C vals i) := ⟨A, hF, wayH.rely, fun w h => h.live⟩
noncomputable def ops53 : Array Oper := opsOf (snd (Try.f53.body.getD .skip))
noncomputable abbrev cs53 (C : Cfg) (T : Array Value) : List Frame := [(baseD 53).at ⟨T, [dcall 54 #[.pointer (some (stA C.Wg))]]⟩ [.inRegion ops53 [4]], bot]
set_option maxRecDepth 100000 in
theorem after (A : C.Apart) {vals : Nat → Value × Value × Value} {Kb : Nat → Prop} {T T' T55 T53 : Array Value} {ops ops' : Array Oper} {j : Nat} {k55 : List Item} (w : World) (hw : KH C vals i w) :
   FinW C vals Kb i (G ((base 99).at ⟨T, []⟩ (.inRegion ops [] :: [])) ((baseD 82).at ⟨T', []⟩ [.inRegion ops' [j]] :: { (base 55).at ⟨T55, []⟩ k55 with mode := .returning } :: cs53 C T53)) w := by
 have W := wayH (C := C) (vals := vals) (Kb := Kb) (i := i)
 refine ⟨400, (?_ : Reach Try.prog false (Ry C (· = i) Kb) (Dk C Kb i) (KH C vals i) (WR0 C Try.prog vals Kb i) (base 99) _ [] 400 T [.inRegion ops []]) w hw⟩
 refine Reach.more (n := 399 + 1) (by omega) (Reach.endRegion W ?_)
 refine Reach.more (n := 397 + 2) (by omega) (Reach.leave0 W rfl Try.func99 rfl ?_ (.inl rfl))
 refine Reach.more (n := 396 + 1) (by omega) (Reach.endRegion W ?_)
 refine Reach.more (n := 394 + 2) (by omega) (Reach.leaveD W rfl Try.func82 rfl (.inl rfl) ?_)
 refine ReachR.more (n := 393 + 1) (by omega) (ReachR.leave0 W rfl Try.func55 rfl ?_)
 refine Reach.more (n := 392 + 1) (by omega) (Reach.endRegion W ?_)
 refine Reach.more (n := 391 + 1) (by omega) (Reach.ret W (.inl rfl) ?_)
 refine ReachR.more (n := 150 + 1) (by omega) (ReachR.unwind W Try.func54 (by kernel_rfl) (c := Try.f54.body.getD .skip) rfl ?_)
 exact doneOk A (size_slots _ _ (by simp [Try.f54])) ((evalT_slots _ _ _ (by simp)).trans (by simp))
theorem Wr.trans {w w₁ w₂ : World} (h : Wr C i w w₁) (k : Wr C i w₁ w₂) : Wr C i w w₂ :=
 ⟨k.tape.trans h.tape, k.os.trans h.os, k.out.trans h.out, k.size.trans h.size, fun b h1 h2 => (k.block b h1 h2).trans (h.block b h1 h2), fun l => k.live (h.live l), fun i' a hi ha => (k.cells i' a hi ha).trans (h.cells i' a hi ha)⟩
theorem cell_set_ne {w : World} {a a' : Addr} (v : Value) (h1 : a.spot = none) (h2 : a'.spot = none) (hne : a ≠ a') : (w.setCell a v).cell? a' = w.cell? a' := by
 obtain ⟨b, o, s⟩ := a
 obtain ⟨b', o', s'⟩ := a'
 simp only at h1 h2
 subst h1 h2
 by_cases hb : b = b'
 · subst hb
   have ho : o ≠ o' := fun e => hne (by rw [e])
   unfold World.setCell World.cell?
   simp only [Array.getElem?_modify, if_true]
   cases hh : w.heap[b]? with
   | none => rfl
   | some ob =>
     cases ob <;> simp [Array.getElem?_setIfInBounds_ne ho]
 · exact cell_of_block' (heap_set w ⟨b, o, none⟩ v b' (Ne.symm hb))
theorem row_set {w : World} {b n off : Nat} {t : TypeId} (v : Value) (h : RowAt b t n w) : RowAt b t n (w.setCell ⟨b, off, none⟩ v) := by
 obtain ⟨cs, h1, h2⟩ := h
 exact ⟨cs.setIfInBounds off v, heap_at w v h1, by simp [h2]⟩
theorem row_cell {w : World} {b n off : Nat} {t : TypeId} (h : RowAt b t n w) (ho : off < n) : (∃ u, w.cell? ⟨b, off, none⟩ = some u) ∧ w.frozen? ⟨b, off, none⟩ = false := by
 obtain ⟨cs, h1, h2⟩ := h
 refine ⟨⟨cs[off]'(by omega), ?_⟩, ?_⟩
 · simp [World.cell?, h1, show off < cs.size by omega]
 · simp [World.frozen?, h1]
theorem row_get {w : World} {b n off : Nat} {t : TypeId} (v : Value) (h : RowAt b t n w) (ho : off < n) : (w.setCell ⟨b, off, none⟩ v).cell? ⟨b, off, none⟩ = some v := by
 obtain ⟨cs, h1, h2⟩ := h
 have := heap_at w (off := off) v h1
 simp [World.cell?, this, show off < cs.size by omega]
theorem wr_set (A : C.Apart) {w : World} {a : Addr} (v : Value) (ha : OwnC C i a) : Wr C i w (w.setCell a v) := by
 obtain ⟨b, o, sp⟩ := a
 have hsp : sp = none := ha.1
 subst hsp
 have hb : b = C.G ∨ b = C.H := ha.blk
 refine ⟨rfl, rfl, rfl, by simp [World.setCell], fun b' h1 h2 => heap_set w _ v b' (fun e => by rcases hb with x | x <;> subst x <;> first | exact h1 e | exact h2 e), fun l => ?_, fun i' a' hi ha' => ?_⟩
 · obtain ⟨⟨m, ms, hm⟩, ⟨st, sm, hw⟩, hg, hh⟩ := l
   have nF : C.F ≠ b := by rcases hb with x | x <;> rw [x] <;> first | exact A.fg | exact A.fh
   have nW : C.Wg ≠ b := by rcases hb with x | x <;> rw [x] <;> first | exact Ne.symm A.gw | exact Ne.symm A.hw
   refine ⟨⟨m, ms, (heap_set w _ v _ nF).trans hm⟩, ⟨st, sm, (heap_set w _ v _ nW).trans hw⟩, ?_, ?_⟩
   · rcases hb with x | x
     · rw [x]; exact row_set v hg
     · obtain ⟨cs, q1, q2⟩ := hg; exact ⟨cs, (heap_set w _ v _ (by rw [x]; exact A.gh)).trans q1, q2⟩
   · rcases hb with x | x
     · obtain ⟨cs, q1, q2⟩ := hh; exact ⟨cs, (heap_set w _ v _ (by rw [x]; exact Ne.symm A.gh)).trans q1, q2⟩
     · rw [x]; exact row_set v hh
 · refine cell_set_ne v rfl ha'.1 fun e => ?_
   subst e
   have gh := A.gh
   rcases ha.2 with ⟨x1, y1⟩ | ⟨x1, y1⟩ <;> rcases ha'.2 with ⟨x2, y2⟩ | ⟨x2, y2⟩
   · omega
   · exact gh (x1.symm.trans x2)
   · exact gh (x2.symm.trans x1)
   · omega
noncomputable def body55 : Code := Try.f55.body.getD .skip
noncomputable def ops4 : Array Oper := opsOf (thn (snd (snd (snd (snd body55)))))
def dOf (j : Nat) : Nat := if j ≤ 11 then 22 + j else 21 + j
noncomputable def vOf (C : Cfg) (J : Job) (i : Nat) : Nat → Value
 | 0 | 1 | 5 | 6 => .pointer (some (muA C))
 | 2 => .pointer (some ⟨C.F, 2, none⟩)
 | 3 => C.gv
 | 4 | 9 => .int .i64 i
 | 7 => .pointer (some ⟨C.F, 3, none⟩)
 | 8 => C.hv
 | 10 => .agg #[.int .i64 J.x, .int .i64 J.y]
 | 11 => .pointer (some ⟨C.G, 2 * i, none⟩)
 | 13 => .pointer (some ⟨C.H, i, none⟩)
 | _ => undef
structure InvT (C : Cfg) (J : Job) (i bk : Nat) (l : Array Bool) (T : Array Value) : Prop where
 size : T.size = 35
 s0 : evalT T (.tmp 0) = .pointer (some (muA C))
 s1 : evalT T (.tmp 1) = .int .i64 i
 s6 : evalT T (.tmp 6) = .pointer (some ⟨bk, 0, none⟩)
 v : ∀ j, j < 15 → j ≠ 12 → j ≠ 14 → l.getD j false = true → evalT T (.tmp (dOf j)) = vOf C J i j
theorem InvT.put {l : Array Bool} {T : Array Value} (h : InvT C J i bk l T) (j : Nat) (h1 : j < 15) (h2 : j ≠ 12) (h3 : j ≠ 14) : InvT C J i bk (l.setIfInBounds j true) (putT T (some (dOf j)) (vOf C J i j)) := by
 have hd : dOf j < T.size := by rw [h.size]; unfold dOf; split <;> omega
 have hne : ∀ t : Nat, t ≤ 6 → evalT (putT T (some (dOf j)) (vOf C J i j)) (.tmp t) = evalT T (.tmp t) := fun t ht => by
   rw [evalT_put _ _ _ _ hd, if_neg (show ¬ (t : Nat) = dOf j from by unfold dOf; split <;> omega)]
 refine ⟨by rw [size_putT]; exact h.size, (hne 0 (by omega)).trans h.s0, (hne 1 (by omega)).trans h.s1, (hne 6 (by omega)).trans h.s6, fun j' k1 k2 k3 hl => ?_⟩
 rw [evalT_put _ _ _ _ hd]
 by_cases e : j' = j
 · subst e; rw [if_pos rfl]
 · rw [if_neg (show ¬ (dOf j' : Nat) = dOf j from by unfold dOf; split <;> split <;> omega)]
   refine h.v j' k1 k2 k3 ?_
   rw [getD_set_ne false (fun x => e x.symm)] at hl
   exact hl
theorem InvT.none {l : Array Bool} {T : Array Value} (h : InvT C J i bk l T) (j : Nat) (h2 : j = 12 ∨ j = 14) : InvT C J i bk (l.setIfInBounds j true) (putT T none undef) :=
 ⟨h.size, h.s0, h.s1, h.s6, fun j' k1 k2 k3 hl => h.v j' k1 k2 k3 (by rw [getD_set_ne false (by omega)] at hl; exact hl)⟩
structure InvW (C : Cfg) (J : Job) (i bk : Nat) (l : Array Bool) (w : World) : Prop where
 live : Live C w
 k0 : w.cell? ⟨bk, 0, none⟩ = some (.int .i64 J.x)
 k1 : w.cell? ⟨bk, 1, none⟩ = some (.int .i64 J.y)
 g : l.getD 12 false = true → w.cell? ⟨C.G, 2 * i, none⟩ = some (.int .i64 J.x) ∧ w.cell? ⟨C.G, 2 * i + 1, none⟩ = some (.int .i64 J.y)
 h : l.getD 14 false = true → w.cell? ⟨C.H, i, none⟩ = some (.bool true)
theorem InvW.rely {l : Array Bool} {w w₁ : World} (h : InvW C J i bk l w) (r : Ry C (· = i) (Kb2 J bk) w w₁) : InvW C J i bk l w₁ :=
 ⟨r.live h.live, cell_rely r (.inr rfl) h.k0, cell_rely r (.inr rfl) h.k1, fun x => ⟨(r.own i _ rfl ⟨rfl, .inl ⟨rfl, .inl rfl⟩⟩).trans (h.g x).1, (r.own i _ rfl ⟨rfl, .inl ⟨rfl, .inr rfl⟩⟩).trans (h.g x).2⟩, fun x => (r.own i _ rfl ⟨rfl, .inr ⟨rfl, rfl⟩⟩).trans (h.h x)⟩
theorem InvW.same {l : Array Bool} {w : World} (h : InvW C J i bk l w) {j : Nat} (hj : j ≠ 12 ∧ j ≠ 14) : InvW C J i bk (l.setIfInBounds j true) w :=
 ⟨h.live, h.k0, h.k1, fun x => h.g (by rw [getD_set_ne false (fun e => hj.1 e)] at x; exact x), fun x => h.h (by rw [getD_set_ne false (fun e => hj.2 e)] at x; exact x)⟩
theorem ops4_after : ∀ (j : Nat) (o : Oper), ops4[j]? = some o → ∀ e ∈ o.after, Region.binds .any e = true → e.on < j := by
 have hs : ops4.size = 15 := by kernel_rfl
 have hall : ((List.range 15).all fun j => (ops4[j]?).all fun o => o.after.all fun e => !Region.binds .any e || decide (e.on < j)) = true := by kernel_rfl
 intro j o ho e he hb
 have hj : j < 15 := by have := (Array.getElem?_eq_some_iff.1 ho).1; omega
 have h1 := List.all_eq_true.1 hall j (List.mem_range.2 hj)
 rw [ho] at h1
 simp only [Option.all_some] at h1
 obtain ⟨q, hq, rfl⟩ := Array.mem_iff_getElem.1 he
 have h2 := Array.all_eq_true.1 h1 q hq
 rw [hb, Bool.not_true, Bool.false_or] at h2
 exact of_decide_eq_true h2
theorem pick_on {l : Array Bool} {j : Nat} (hp : Pick ops4 l j) {o : Oper} (ho : ops4[j]? = some o) {e : Edge} (he : e ∈ o.after) (hb : Region.binds .any e = true) : l.getD e.on false = true := by
 obtain ⟨o', h1, _, h3⟩ := hp
 obtain rfl : o = o' := Option.some.inj (ho.symm.trans h1)
 exact h3 e he hb
set_option maxHeartbeats 4000000 in
set_option maxRecDepth 100000 in
theorem keepStep (Q : Geo2 C J i) (hbk : bk ≠ C.G ∧ bk ≠ C.H) {cs : List Frame} {ds : List Deferred} {k : List Item} (l : Array Bool) (T : Array Value) (w : World) (j : Nat) (is : List Nat) (hp : Pick ops4 l j) (hj : j < ops4.size) (hT : InvT C J i bk l T) (hw : InvW C J i bk l w) :
   ∃ T' w' es, stepG Try.prog false (G ((base 55).at ⟨T, ds⟩ (.inRegion ops4 (j :: is) :: k)) cs) w = .go (G ((base 55).at ⟨T', ds⟩ (.inRegion ops4 is :: k)) cs) w' es ∧ Dk C (Kb2 J bk) i w w' es ∧ InvT C J i bk (l.setIfInBounds j true) T' ∧ InvW C J i bk (l.setIfInBounds j true) w' := by
 have hs : ops4.size = 15 := by kernel_rfl
 rw [hs] at hj
 have pure : ∀ (o : Oper), ops4[j]? = some o → j ≠ 12 → j ≠ 14 → o.dst = some (dOf j) → o.guard = none → evPure (offP Try.prog) (evalT T) o.op = some (vOf C J i j) →
     ∃ T' w' es, stepG Try.prog false (G ((base 55).at ⟨T, ds⟩ (.inRegion ops4 (j :: is) :: k)) cs) w = .go (G ((base 55).at ⟨T', ds⟩ (.inRegion ops4 is :: k)) cs) w' es ∧ Dk C (Kb2 J bk) i w w' es ∧ InvT C J i bk (l.setIfInBounds j true) T' ∧ InvW C J i bk (l.setIfInBounds j true) w' := by
   intro o ho h1 h2 hd hg hv
   refine ⟨_, w, #[], evStep_step (T' := putT T o.dst (vOf C J i j)) (k' := .inRegion ops4 is :: k) (by simp [base]) (offP_ok _) ?_ w, ⟨Wr.refl C i w, by simp⟩, by rw [hd]; exact hT.put j hj h1 h2, hw.same ⟨h1, h2⟩⟩
   simp only [evStep, ho]
   rw [if_pos (by simp [Region.wanted, hg]), hv]
 have val : ∀ (o : Oper), ops4[j]? = some o → j ≠ 12 → j ≠ 14 → o.dst = some (dOf j) → o.guard = none → (execOp (evalT T) o).run Try.prog w = .ok (.value (vOf C J i j)) w → (∀ e ∈ (execOp (evalT T) o).events Try.prog w #[], Dk C (Kb2 J bk) i w w #[e]) →
     ∃ T' w' es, stepG Try.prog false (G ((base 55).at ⟨T, ds⟩ (.inRegion ops4 (j :: is) :: k)) cs) w = .go (G ((base 55).at ⟨T', ds⟩ (.inRegion ops4 is :: k)) cs) w' es ∧ Dk C (Kb2 J bk) i w w' es ∧ InvT C J i bk (l.setIfInBounds j true) T' ∧ InvW C J i bk (l.setIfInBounds j true) w' := by
   intro o ho h1 h2 hd hg hr he
   have hst := stepG_value (P := Try.prog) (main := false) (b := base 55) (a := ⟨T, ds⟩) (k := k) (cs := cs) (w := w) (rest := is) (v := vOf C J i j) ho (wantedA (by simp [Region.wanted, hg])) (by simp [base]) (by rw [evalA]; exact hr)
   rw [putA] at hst
   refine ⟨_, w, _, hst, dk_all w _ fun e hm => ?_, ?_, hw.same ⟨h1, h2⟩⟩
   · have := mem_listed hm
     rw [evalA] at this
     exact he e this
   · rw [hd]
     exact hT.put j hj h1 h2
 have lg := hw.live.gg
 have lh := hw.live.hh
 have hlt := Q.lt
 obtain ⟨m, ms, hmu⟩ := hw.live.mu
 have A := Q.apart
 have on : ∀ {o : Oper}, ops4[j]? = some o → ∀ ix q : Nat, o.after[ix]? = some (⟨q, .data⟩ : Edge) → l.getD q false = true := fun ho ix q he => pick_on hp ho (Array.mem_of_getElem? he) rfl
 rcases (show j = 0 ∨ j = 1 ∨ j = 2 ∨ j = 3 ∨ j = 4 ∨ j = 5 ∨ j = 6 ∨ j = 7 ∨ j = 8 ∨ j = 9 ∨ j = 10 ∨ j = 11 ∨ j = 12 ∨ j = 13 ∨ j = 14 by omega) with rfl | rfl | rfl | rfl | rfl | rfl | rfl | rfl | rfl | rfl | rfl | rfl | rfl | rfl | rfl
 · exact pure _ rfl (by decide) (by decide) rfl rfl (congrArg some hT.s0)
 · have h := hT.v 0 (by decide) (by decide) (by decide) (on rfl 0 0 rfl)
   have h' : evalT T (.tmp 22) = .pointer (some (muA C)) := h
   exact pure _ rfl (by decide) (by decide) rfl rfl (by show evPure _ _ (.nilCheck (.tmp 22)) = _; simp only [evPure, h']; rfl)
 · have h := hT.v 1 (by decide) (by decide) (by decide) (on rfl 0 1 rfl)
   have h' : evalT T (.tmp 23) = .pointer (some (muA C)) := h
   exact pure _ rfl (by decide) (by decide) rfl rfl (by show evPure _ _ (.fieldAddr 75 (.tmp 23) 1) = _; simp only [evPure, h', off75_1]; rfl)
 · have h := hT.v 2 (by decide) (by decide) (by decide) (on rfl 0 2 rfl)
   have h' : evalT T (.tmp 24) = .pointer (some ⟨C.F, 2, none⟩) := h
   have hr := run_ld1 (w := w) (ρ := evalT T) (o := ops4[3]'(by rw [hs]; decide)) (ty := 28) rfl h' hmu.cellG (.inr (.inr (.inl rfl)))
   exact val _ rfl (by decide) (by decide) rfl rfl hr.1 (fun e he => by rw [hr.2, Array.mem_singleton] at he; subst he; exact dk_readF rfl (Nat.le_refl _) hmu.cellG)
 · exact pure _ rfl (by decide) (by decide) rfl rfl (congrArg some hT.s1)
 · exact pure _ rfl (by decide) (by decide) rfl rfl (congrArg some hT.s0)
 · have h := hT.v 5 (by decide) (by decide) (by decide) (on rfl 0 5 rfl)
   have h' : evalT T (.tmp 27) = .pointer (some (muA C)) := h
   exact pure _ rfl (by decide) (by decide) rfl rfl (by show evPure _ _ (.nilCheck (.tmp 27)) = _; simp only [evPure, h']; rfl)
 · have h := hT.v 6 (by decide) (by decide) (by decide) (on rfl 0 6 rfl)
   have h' : evalT T (.tmp 28) = .pointer (some (muA C)) := h
   exact pure _ rfl (by decide) (by decide) rfl rfl (by show evPure _ _ (.fieldAddr 75 (.tmp 28) 2) = _; simp only [evPure, h', off75_2]; rfl)
 · have h := hT.v 7 (by decide) (by decide) (by decide) (on rfl 0 7 rfl)
   have h' : evalT T (.tmp 29) = .pointer (some ⟨C.F, 3, none⟩) := h
   have hr := run_ld1 (w := w) (ρ := evalT T) (o := ops4[8]'(by rw [hs]; decide)) (ty := 66) rfl h' hmu.cellH (.inr (.inr (.inr rfl)))
   exact val _ rfl (by decide) (by decide) rfl rfl hr.1 (fun e he => by rw [hr.2, Array.mem_singleton] at he; subst he; exact dk_readF rfl (show 2 ≤ 3 by decide) hmu.cellH)
 · exact pure _ rfl (by decide) (by decide) rfl rfl (congrArg some hT.s1)
 · have hr := run_ld30 (w := w) (ρ := evalT T) (o := ops4[10]'(by rw [hs]; decide)) rfl hT.s6 hw.k0 hw.k1
   exact val _ rfl (by decide) (by decide) rfl rfl hr.1 (fun e he => by
     rw [hr.2] at he
     simp only [List.mem_toArray, List.mem_cons, List.not_mem_nil, or_false] at he
     rcases he with rfl | rfl
     · exact dk_read (.inr rfl) hw.k0
     · exact dk_read (.inr rfl) hw.k1)
 · have h3 := hT.v 3 (by decide) (by decide) (by decide) (on rfl 0 3 rfl)
   have h4 := hT.v 4 (by decide) (by decide) (by decide) (on rfl 1 4 rfl)
   have h3' : evalT T (.tmp 25) = .slice (some ⟨C.G, 0, none⟩) C.n C.n := h3.trans Q.gv
   have h4' : evalT T (.tmp 26) = .int .i64 (i : Nat) := h4
   have hr := run_ix28 (w := w) (ρ := evalT T) (o := ops4[11]'(by rw [hs]; decide)) rfl h3' h4' hlt
   exact val _ rfl (by decide) (by decide) rfl rfl hr.1 (fun e he => by rw [hr.2] at he; simp at he)
 · have h11 := hT.v 11 (by decide) (by decide) (by decide) (on rfl 0 11 rfl)
   have h10 := hT.v 10 (by decide) (by decide) (by decide) (on rfl 1 10 rfl)
   have h11' : evalT T (.tmp 33) = .pointer (some ⟨C.G, 2 * i, none⟩) := h11
   have h10' : evalT T (.tmp 32) = .agg #[.int .i64 J.x, .int .i64 J.y] := h10
   obtain ⟨⟨u1, c1⟩, f1⟩ := row_cell (off := 2 * i) lg (by omega)
   have lg2 := row_set (off := 2 * i) (.int .i64 J.x) lg
   obtain ⟨⟨u2, c2⟩, f2⟩ := row_cell (off := 2 * i + 1) lg2 (by omega)
   have hr := run_st30 (w := w) (ρ := evalT T) (o := ops4[12]'(by rw [hs]; decide)) rfl h11' h10' c1 f1 c2 f2
   have hwr : Wr C i w ((w.setCell ⟨C.G, 2 * i, none⟩ (.int .i64 J.x)).setCell ⟨C.G, 2 * i + 1, none⟩ (.int .i64 J.y)) := (wr_set A _ ⟨rfl, .inl ⟨rfl, .inl rfl⟩⟩).trans (wr_set A _ ⟨rfl, .inl ⟨rfl, .inr rfl⟩⟩)
   have hst := stepG_none (P := Try.prog) (main := false) (b := base 55) (a := ⟨T, ds⟩) (k := k) (cs := cs) (w := w) (rest := is) (ops := ops4) (i := 12) rfl (wantedA rfl) (by simp [base]) (by rw [evalA]; exact hr.1)
   refine ⟨putT T none undef, _, _, hst, ⟨hwr, fun e hm => ?_⟩, hT.none 12 (.inl rfl), ?_⟩
   · have := mem_listed hm
     rw [evalA, hr.2] at this
     simp only [List.mem_toArray, List.mem_cons, List.not_mem_nil, or_false] at this
     rw [hwr.size]
     rcases this with rfl | rfl
     · exact ⟨_, true, rfl, lt_of_cell c1, .inl ⟨rfl, .inl ⟨rfl, .inl rfl⟩⟩⟩
     · exact ⟨_, true, rfl, (show C.G < w.heap.size from lt_of_cell c1), .inl ⟨rfl, .inl ⟨rfl, .inr rfl⟩⟩⟩
   · have nb : ∀ {o : Nat} {v : Value}, w.cell? ⟨bk, o, none⟩ = some v → ((w.setCell ⟨C.G, 2 * i, none⟩ (.int .i64 J.x)).setCell ⟨C.G, 2 * i + 1, none⟩ (.int .i64 J.y)).cell? ⟨bk, o, none⟩ = some v := fun h => (cell_of_block' (hwr.block bk hbk.1 hbk.2)).trans h
     refine ⟨hwr.live hw.live, nb hw.k0, nb hw.k1, fun _ => ⟨?_, row_get (off := 2 * i + 1) _ lg2 (by omega)⟩, fun x => ?_⟩
     · rw [cell_set_ne _ rfl rfl (by simp)]
       exact row_get (off := 2 * i) _ lg (by omega)
     · rw [getD_set_ne false (by decide)] at x
       rw [cell_set_ne _ rfl rfl (by simp [A.gh]), cell_set_ne _ rfl rfl (by simp [A.gh])]
       exact hw.h x
 · have h8 := hT.v 8 (by decide) (by decide) (by decide) (on rfl 0 8 rfl)
   have h9 := hT.v 9 (by decide) (by decide) (by decide) (on rfl 1 9 rfl)
   have h8' : evalT T (.tmp 30) = .slice (some ⟨C.H, 0, none⟩) C.n C.n := h8.trans Q.hv
   have h9' : evalT T (.tmp 31) = .int .i64 (i : Nat) := h9
   have hr := run_ix66 (w := w) (ρ := evalT T) (o := ops4[13]'(by rw [hs]; decide)) rfl h8' h9' hlt
   exact val _ rfl (by decide) (by decide) rfl rfl hr.1 (fun e he => by rw [hr.2] at he; simp at he)
 · have h13 := hT.v 13 (by decide) (by decide) (by decide) (on rfl 0 13 rfl)
   have h13' : evalT T (.tmp 34) = .pointer (some ⟨C.H, i, none⟩) := h13
   obtain ⟨⟨u1, c1⟩, f1⟩ := row_cell (off := i) lh hlt
   have hr := run_st1 (w := w) (ρ := evalT T) (o := ops4[14]'(by rw [hs]; decide)) (ty := 4) (v := .bool true) rfl h13' rfl (.inr (.inr rfl)) (.inr (.inl ⟨_, rfl⟩)) c1 f1
   have hwr : Wr C i w (w.setCell ⟨C.H, i, none⟩ (.bool true)) := wr_set A _ ⟨rfl, .inr ⟨rfl, rfl⟩⟩
   have hst := stepG_none (P := Try.prog) (main := false) (b := base 55) (a := ⟨T, ds⟩) (k := k) (cs := cs) (w := w) (rest := is) (ops := ops4) (i := 14) rfl (wantedA rfl) (by simp [base]) (by rw [evalA]; exact hr.1)
   refine ⟨putT T none undef, _, _, hst, ⟨hwr, fun e hm => ?_⟩, hT.none 14 (.inr rfl), ?_⟩
   · have := mem_listed hm
     rw [evalA, hr.2, Array.mem_singleton] at this
     subst this
     rw [hwr.size]
     exact ⟨_, true, rfl, lt_of_cell c1, .inl ⟨rfl, .inr ⟨rfl, rfl⟩⟩⟩
   · have nb : ∀ {o : Nat} {v : Value}, w.cell? ⟨bk, o, none⟩ = some v → (w.setCell ⟨C.H, i, none⟩ (.bool true)).cell? ⟨bk, o, none⟩ = some v := fun h => (cell_of_block' (hwr.block bk hbk.1 hbk.2)).trans h
     refine ⟨hwr.live hw.live, nb hw.k0, nb hw.k1, fun x => ?_, fun _ => row_get _ lh hlt⟩
     rw [getD_set_ne false (by decide)] at x
     have gh := A.gh
     rw [cell_set_ne _ rfl rfl (by simp [Ne.symm gh]), cell_set_ne _ rfl rfl (by simp [Ne.symm gh])]
     exact hw.g x
noncomputable def c55 : Code := snd (snd body55)
theorem off_bk0 (b : Nat) : (⟨b, 0, none⟩ : Addr).add 0 = ⟨b, 0, none⟩ := rfl
theorem off_bk1 (b : Nat) : (⟨b, 0, none⟩ : Addr).add 1 = ⟨b, 1, none⟩ := rfl
theorem notF (Q : Geo2 C J i) (hb : bk ≠ C.F) : ¬ Kb2 J bk C.F := by
 rintro ((h | h | h) | h)
 · rcases h with h | h
   · exact Q.f.1 h.symm
   · exact Q.f.2.1 h.symm
 · exact Q.f.2.2.1 h.symm
 · exact Q.f.2.2.2 h.symm
 · exact hb h.symm
set_option maxHeartbeats 4000000 in
set_option maxRecDepth 100000 in
theorem toUnlock (Q : Geo2 C J i) (hb : bk ≠ C.F) {vals : Nat → Value × Value × Value} (k : Nat) (T T53 : Array Value) {l : List Item} (hl : Ended l) :
   RchL C (Kb2 J bk) i (KH C vals i) (FinW C vals (Kb2 J bk) i) k (at_ .ur) (base 55) (cs53 C T53) [dcall 82 #[.pointer (some (muA C))]] 48 T l := by
 have X : Ctx C (Kb2 J bk) i (KH C vals i) := kh_ctx Q.apart (notF Q hb)
 have hr := at82 X (cs0 := { (base 55).at ⟨T, []⟩ l with mode := .returning } :: cs53 C T53) (Fin := FinW C vals (Kb2 J bk) i) (k := k) (T := #[.pointer (some (muA C))] ++ Array.replicate (Try.f82.ntmps - 1) undef) (fun w T' T'' ops ops' j hw => after Q.apart w hw) (size_slots #[.pointer (some (muA C))] 6 (by simp)) ((evalT_slots #[.pointer (some (muA C))] _ 0 (by simp)).trans (by simp))
 refine Reach.more (n := 47) (by omega) (Reach.ret X.way hl (ReachR.unwind X.way Try.func82 (by kernel_rfl) (c := Try.f82.body.getD .skip) rfl ?_))
 exact hr
theorem live_drawn {w : World} (d : Nat) (l : Live C w) : Live C { w with drawn := d } := ⟨l.mu, l.wg, l.gg, l.hh⟩
theorem map1 {T : Array Value} {x : Operand} {p : Value} (h : evalT T x = p) : (#[x] : Array Operand).map (evalT T) = #[p] := by simp [h]
theorem ops4_size : ops4.size = 15 := by kernel_rfl
theorem e55c : c55 = .seq (fst (snd (snd (Try.f55.body.getD .skip)))) (.seq (fst (snd (snd (snd (Try.f55.body.getD .skip))))) (.cond (.tmp 21) (.region 4 ops4 true) .skip)) := rfl
set_option maxHeartbeats 4000000 in
set_option maxRecDepth 100000 in
theorem locked (Q : Geo2 C J i) (hb : bk ≠ C.F ∧ bk ≠ C.G ∧ bk ≠ C.H) {vals : Nat → Value × Value × Value} (hv : vals i = J.fin) (k : Nat) {T T53 : Array Value} (hsz : T.size = 35) (h0 : evalT T (.tmp 0) = .pointer (some (muA C))) (h1 : evalT T (.tmp 1) = .int .i64 i) (h3 : evalT T (.tmp 3) = .int .i64 J.least) (h6 : evalT T (.tmp 6) = .pointer (some ⟨bk, 0, none⟩)) :
   RchL C (Kb2 J bk) i (WK2 C J i bk) (FinW C vals (Kb2 J bk) i) k (at_ .ur) (base 55) (cs53 C T53) [] 116 T [.code c55] := by
 have W : Way Try.prog (Ry C (· = i) (Kb2 J bk)) (Dk C (Kb2 J bk) i) (WK2 C J i bk) := ⟨WK2.rely, fun w _ => ⟨Wr.refl C i w, by simp⟩⟩
 rw [e55c]
 simp only [Try.f55, Option.getD_some, snd, fst]
 refine Reach.more (n := 106 + 10) (by omega) (Reach.runs (n := 106) W (by simp [base]) (offP_ok _) 10 ?_)
 simp only [evRun, evStep, zqa, Nat.reduceAdd, Nat.zero_add, List.range, List.range.loop, zqb, Region.wanted, ↓reduceIte, evPure, evalT_put, size_putT, hsz, Nat.reduceLT, muA_add0, h0, off75_0]
 refine Reach.more (n := 105 + 1) (by omega) (Reach.defer W (by simp [base]) rfl rfl rfl ?_)
 rw [map1 (p := .pointer (some (muA C))) (by simp only [↓reduceIte, evalT_put, size_putT, hsz, Nat.reduceLT])]
 refine Reach.more (n := 96 + 9) (by omega) (Reach.runs (n := 96) W (by simp [base]) (offP_ok _) 9 ?_)
 simp only [evRun, evStep, zqa, Nat.reduceAdd, Nat.zero_add, List.range, List.range.loop, zqb, zqc, Region.wanted, ↓reduceIte, evPure, evalT_put, size_putT, hsz, Nat.reduceLT, Nat.reduceEqDiff, putT_none, h6, off30_1, off_bk1]
 refine Reach.more (n := 95 + 1) (by omega) (Reach.opv W (by simp [base]) (.int .i64 J.y) rfl rfl (fun w hw => (run_ld1 (ty := 3) (ad := ⟨bk, 1, none⟩) rfl (by simp only [↓reduceIte, evalT_put, size_putT, hsz, Nat.reduceLT]) hw.k1 (.inl rfl)).1) (fun w hw e he => by rw [(run_ld1 (ty := 3) (ad := ⟨bk, 1, none⟩) rfl (by simp only [↓reduceIte, evalT_put, size_putT, hsz, Nat.reduceLT]) hw.k1 (.inl rfl)).2, Array.mem_singleton] at he; subst he; exact dk_read (.inr rfl) hw.k1) dk_all ?_)
 refine Reach.more (n := 86 + 9) (by omega) (Reach.runs (n := 86) W (by simp [base]) (offP_ok _) 9 ?_)
 simp only [evRun, evStep, zqb, zqc, Region.wanted, ↓reduceIte, evPure, evalT_put, size_putT, hsz, Nat.reduceLT, Nat.reduceEqDiff, h6, off30_0, off_bk0]
 refine Reach.more (n := 85 + 1) (by omega) (Reach.opv W (by simp [base]) (.int .i64 J.x) rfl rfl (fun w hw => (run_ld1 (ty := 3) (ad := ⟨bk, 0, none⟩) rfl (by simp only [↓reduceIte, evalT_put, size_putT, hsz, Nat.reduceLT]) hw.k0 (.inl rfl)).1) (fun w hw e he => by rw [(run_ld1 (ty := 3) (ad := ⟨bk, 0, none⟩) rfl (by simp only [↓reduceIte, evalT_put, size_putT, hsz, Nat.reduceLT]) hw.k0 (.inl rfl)).2, Array.mem_singleton] at he; subst he; exact dk_read (.inr rfl) hw.k0) dk_all ?_)
 by_cases hl : J.long
 · have qd : decide (IntKind.i64.wrap (J.y - J.x) ≥ J.least) = true := decide_eq_true hl
   refine Reach.more (n := 80 + 5) (by omega) (Reach.runs (n := 80) W (by simp [base]) (offP_ok _) 5 ?_)
   simp only [evRun, evStep, zqb, zqc, Region.wanted, ↓reduceIte, evPure, evalT_put, size_putT, hsz, Nat.reduceLT, Nat.reduceEqDiff, reduceCtorEq, intBin, h3, qd]
   intro w hw
   have hfin : vals i = (.int .i64 J.x, .int .i64 J.y, .bool true) := by rw [hv]; unfold Job.fin; rw [if_pos hl]
   refine Go.ConcM.goes_le (n := ops4.size + 49 + 1) (by rw [ops4_size]; decide) (goes_drawn (n := 49) (Inv := fun l T w => InvT C J i bk l T ∧ InvW C J i bk l w) (fun l T w w₁ h r => ⟨h.1, h.2.rely r⟩) (fun l T w h => ⟨⟨⟨rfl, rfl, rfl, rfl, fun _ _ _ => rfl, live_drawn _, fun _ _ _ _ => rfl⟩, by simp⟩, h.1, ⟨live_drawn _ h.2.live, h.2.k0, h.2.k1, h.2.g, h.2.h⟩⟩) mixed ops4_after
     (fun l T w j is hp hj h => keepStep Q hb.2 l T w j is hp hj h.1 h.2) (fun l T w hls hall h => ?_) ?_)
   · have hall' : ∀ q, q < 15 → l.getD q false = true := fun q hq => by
       have h1 := hall q (by rw [ops4_size]; exact hq)
       have hsz : q < l.size := by rw [hls, ops4_size]; exact hq
       simp only [Array.getD, hsz, dite_true] at h1 ⊢
       exact h1
     have X : Ctx C (Kb2 J bk) i (KH C vals i) := kh_ctx Q.apart (notF Q hb.1)
     refine Reach.endRegion X.way (toUnlock Q hb.1 k T T53 (.inl rfl)) w ⟨h.2.live, ?_⟩
     unfold Has
     rw [hfin]
     exact ⟨(h.2.g (hall' 12 (by decide))).1, (h.2.g (hall' 12 (by decide))).2, h.2.h (hall' 14 (by decide))⟩
   · have hrep : ∀ q, (Array.replicate ops4.size false).getD q false = false := fun q => by
       simp only [Array.getD, Array.size_replicate]
       split <;> simp
     refine ⟨⟨by simp only [size_putT, hsz], ?_, ?_, ?_, fun q _ _ _ h => by rw [hrep q] at h; cases h⟩, ⟨hw.k.live, hw.k0, hw.k1, fun h => (by rw [hrep 12] at h; cases h), fun h => (by rw [hrep 14] at h; cases h)⟩⟩
     all_goals simp only [↓reduceIte, evalT_put, size_putT, hsz, Nat.reduceLT, Nat.reduceEqDiff, reduceCtorEq, h0, h1, h6]
 · have qd : decide (IntKind.i64.wrap (J.y - J.x) ≥ J.least) = false := decide_eq_false hl
   refine Reach.more (n := 79 + 6) (by omega) (Reach.runs (n := 79) W (by simp [base]) (offP_ok _) 6 ?_)
   simp only [evRun, evStep, zqb, zqc, Region.wanted, ↓reduceIte, evPure, evalT_put, size_putT, hsz, Nat.reduceLT, Nat.reduceEqDiff, reduceCtorEq, intBin, h3, qd]
   intro w hw
   have hfin : vals i = (.int .i64 0, .int .i64 0, .bool false) := by rw [hv]; unfold Job.fin; rw [if_neg hl]
   refine (Reach.more (n := 48) (by omega) (toUnlock Q hb.1 k _ T53 (.inl rfl))) w ⟨hw.k.live, ?_⟩
   unfold Has
   rw [hfin]
   exact ⟨hw.k.z0, hw.k.z1, hw.k.z2⟩
set_option maxHeartbeats 4000000 in
set_option maxRecDepth 100000 in
theorem lockIt (Q : Geo2 C J i) (hb : bk ≠ C.F ∧ bk ≠ C.G ∧ bk ≠ C.H) {vals : Nat → Value × Value × Value} (hv : vals i = J.fin) (k : Nat) {T T53 : Array Value} (hsz : T.size = 35) (h0 : evalT T (.tmp 0) = .pointer (some (muA C))) (h1 : evalT T (.tmp 1) = .int .i64 i) (h3 : evalT T (.tmp 3) = .int .i64 J.least) (h6 : evalT T (.tmp 6) = .pointer (some ⟨bk, 0, none⟩)) {ops : Array Oper} :
   RchL C (Kb2 J bk) i (WK2 C J i bk) (FinW C vals (Kb2 J bk) i) k (at_ .ld) (base 55) (cs53 C T53) [] 200 T [.inRegion ops [], .code (.seq (fst (snd (Try.f55.body.getD .skip))) c55)] := by
 have W : Way Try.prog (Ry C (· = i) (Kb2 J bk)) (Dk C (Kb2 J bk) i) (WK2 C J i bk) := ⟨WK2.rely, fun w _ => ⟨Wr.refl C i w, by simp⟩⟩
 have X : Ctx C (Kb2 J bk) i (WK2 C J i bk) := ⟨Q.apart, notF Q hb.1, WK2.rely, fun w h => h.k.live⟩
 simp only [Try.f55, Option.getD_some, snd, fst]
 refine Reach.more (n := 151 + 49) (by omega) (Reach.runs (n := 151) W (by simp [base]) (offP_ok _) 49 ?_)
 simp only [evRun, evStep, zqa, Nat.reduceAdd, Nat.zero_add, List.range, List.range.loop, zqb, Region.wanted, ↓reduceIte, evPure, evalT_put, size_putT, hsz, Nat.reduceLT, muA_add0, h0, off75_0]
 refine Reach.call W (by simp [base]) rfl rfl rfl Try.func81 (by kernel_rfl) (c := Try.f81.body.getD .skip) rfl ?_
 refine at81 X (fun k T' => ?_) ?_ ?_
 · refine Reach.more (n := 118 + 2) (by omega) (Reach.leave0 W rfl Try.func81 rfl ?_ (.inl rfl))
   refine Reach.more (n := 117 + 1) (by omega) (Reach.endRegion W ?_)
   refine Reach.more (n := 116) (by omega) (locked Q hb hv k ?_ ?_ ?_ ?_ ?_)
   all_goals simp only [zqb, ↓reduceIte, evalT_put, size_putT, hsz, Nat.reduceLT, Nat.reduceEqDiff, Option.bind_some, reduceCtorEq, h0, h1, h3, h6]
 · exact size_slots _ _ (by simp [Try.f81])
 · refine (evalT_slots _ _ _ (by simp)).trans ?_
   simp [evalT_put, size_putT, hsz]
theorem run_box30 {w : World} {ρ : Operand → Value} {o : Oper} {x : Operand} {v1 v2 : Value} (hop : o.op = .box 30 x) (hx : ρ x = .agg #[v1, v2]) :
   (execOp ρ o).run Try.prog w = .ok (.value (.pointer (some ⟨w.heap.size, 0, none⟩))) { w with heap := w.heap.push (.cells #[v1, v2] 30) } ∧ (execOp ρ o).events Try.prog w #[] = #[] := by
 unfold execOp
 simp only [hop, hx]
 constructor <;> simp [go_sem, Instr.box, Go.newVar, Go.newRow, Value.cells]
theorem live_lt {w : World} (l : Live C w) : C.F < w.heap.size ∧ C.G < w.heap.size ∧ C.H < w.heap.size ∧ C.Wg < w.heap.size := by
 have lt : ∀ {b : Nat} {o : Obj}, w.heap[b]? = some o → b < w.heap.size := fun h => (Array.getElem?_eq_some_iff.1 h).1
 obtain ⟨⟨m, ms, hm⟩, ⟨st, sm, hw⟩, ⟨cs, hg, _⟩, ⟨ds, hh, _⟩⟩ := l
 exact ⟨lt hm, lt hg, lt hh, lt hw⟩
noncomputable def ops55z : Array Oper := opsOf (fst (Try.f55.body.getD .skip))
theorem ops55z_size : ops55z.size = 1 := by kernel_rfl
theorem e55b : body55 = .seq (.region 0 ops55z false) (.seq (fst (snd (Try.f55.body.getD .skip))) c55) := rfl
set_option maxHeartbeats 4000000 in
set_option maxRecDepth 100000 in
theorem boxIt (Q : Geo2 C J i) {vals : Nat → Value × Value × Value} (hv : vals i = J.fin) {T T53 : Array Value} (hsz : T.size = 35) (h0 : evalT T (.tmp 0) = .pointer (some (muA C))) (h1 : evalT T (.tmp 1) = .int .i64 i) (h2 : evalT T (.tmp 2) = .agg #[.int .i64 J.x, .int .i64 J.y]) (h3 : evalT T (.tmp 3) = .int .i64 J.least) :
   Reach Try.prog false (Ry C (· = i) J.kb) (Dk C J.kb i) (WK C J i) (WBx C Try.prog vals J.kb i) (base 55) (cs53 C T53) [] 20 T [.code body55] := by
 have W : Way Try.prog (Ry C (· = i) J.kb) (Dk C J.kb i) (WK C J i) := ⟨WK.rely fun b h => h, fun w _ => ⟨Wr.refl C i w, by simp⟩⟩
 rw [e55b]
 refine Reach.more (n := 10 + 2) (by omega) (Reach.runs (n := 10) W (by simp [base]) (offP_ok _) 2 ?_)
 simp only [evRun, evStep, List.range, List.range.loop, ops55z_size]
 intro w hw
 refine Goes.stop fun w₁ h₁ => ?_
 have hw₁ := W.rely w w₁ hw h₁
 have hr := run_box30 (w := w₁) (ρ := evalT T) (o := ops55z[0]'(by rw [ops55z_size]; decide)) (x := .tmp 2) rfl h2
 obtain ⟨lF, lG, lH, lW⟩ := live_lt hw₁.live
 obtain ⟨bk, hbk⟩ : ∃ bk, bk = w₁.heap.size := ⟨_, rfl⟩
 have key : ∀ (ob : Obj) (b : Nat), b < w₁.heap.size → (w₁.heap.push ob)[b]? = w₁.heap[b]? := fun ob b hb => by rw [Array.getElem?_push, if_neg (by omega)]
 have hk2 : WK2 C J i bk { w₁ with heap := w₁.heap.push (.cells #[.int .i64 J.x, .int .i64 J.y] 30) } := by
   have hl' : Live C { w₁ with heap := w₁.heap.push (.cells #[.int .i64 J.x, .int .i64 J.y] 30) } := by
     obtain ⟨⟨m, ms, hm⟩, ⟨st, sm, hg⟩, ⟨cs, hG, q1⟩, ⟨ds, hH, q2⟩⟩ := hw₁.live
     exact ⟨⟨m, ms, (key _ _ lF).trans hm⟩, ⟨st, sm, (key _ _ lW).trans hg⟩, ⟨cs, (key _ _ lG).trans hG, q1⟩, ⟨ds, (key _ _ lH).trans hH, q2⟩⟩
   refine ⟨hw₁.rely (fun b h => h) _ _ ?_, ?_, ?_⟩
   · exact (Eff.push (me := fun _ => False) (X := fun _ => False) w₁ _ ⟨_, _, rfl⟩ lG lH).ry (fun _ _ h => h) (fun _ _ h => h) hl'
   · subst hbk; simp [World.cell?]
   · subst hbk; simp [World.cell?]
 have hb : bk ≠ C.F ∧ bk ≠ C.G ∧ bk ≠ C.H := by omega
 have hst := stepG_value (P := Try.prog) (main := false) (b := base 55) (a := ⟨T, []⟩) (k := [.code (.seq (fst (snd (Try.f55.body.getD .skip))) c55)]) (cs := cs53 C T53) (w := w₁) (ops := ops55z) (i := 0) (rest := []) rfl (wantedA rfl) (by simp [base]) (by rw [evalA]; exact hr.1)
 have hls : listed Try.prog (base 55).fn (Act.mk T []) (ops55z[0]'(by rw [ops55z_size]; decide)) w₁ = #[] := by unfold listed; rw [evalA, hr.2]; exact seen_none Try.prog _
 rw [show listed Try.prog (base 55).fn (Act.mk T []) _ w₁ = #[] from hls, putA] at hst
 refine ⟨rfl, _, 200, .cells #[.int .i64 J.x, .int .i64 J.y] 30, ⟨_, _, rfl⟩, hst, ?_⟩
 rw [← hbk]
 refine goes_all (fun k g w => AtD.down k (at_ .ld) g w) (fun k => ?_)
 refine lockIt Q hb hv k (by rw [size_putT]; exact hsz) ?_ ?_ ?_ ?_ _ hk2
 · exact (evalT_put _ _ _ _ (by rw [hsz]; decide)).trans (by rw [if_neg (by decide)]; exact h0)
 · exact (evalT_put _ _ _ _ (by rw [hsz]; decide)).trans (by rw [if_neg (by decide)]; exact h1)
 · exact (evalT_put _ _ _ _ (by rw [hsz]; decide)).trans (by rw [if_neg (by decide)]; exact h3)
 · exact (evalT_put _ _ _ _ (by rw [hsz]; decide)).trans (by rw [hbk]; exact if_pos rfl)
def call53 (C : Cfg) (J : Job) : Deferred := { target := .fn (.func 53) #[.pointer (some (stA C.Wg)), .pointer (some ⟨J.bf, 0, none⟩), .pointer (some ⟨J.bi, 0, none⟩), .pointer (some ⟨J.br, 0, none⟩), .pointer (some ⟨J.bl, J.lo, none⟩)], args := #[] }
def T53 (C : Cfg) (J : Job) : Array Value := #[.pointer (some (stA C.Wg)), .pointer (some ⟨J.bf, 0, none⟩), .pointer (some ⟨J.bi, 0, none⟩), .pointer (some ⟨J.br, 0, none⟩), .pointer (some ⟨J.bl, J.lo, none⟩), undef, undef, undef, undef, undef]
noncomputable def body53 : Code := Try.f53.body.getD .skip
theorem born_step (w : World) : stepG Try.prog false (born Try.prog (call53 C J)) w = .go (G ((baseD 53).at ⟨T53 C J, []⟩ [.code body53]) [bot]) w := by
 simp [born, call53, stepG, unwind, callDeferred, invoke, callFunc, Try.func53, Try.f53, seen, GStep.after, G, Frame.enter, Frame.at, baseD, bot, body53, T53]
 rfl
set_option maxHeartbeats 4000000 in
set_option maxRecDepth 100000 in
theorem walk53 (Q : Geo2 C J i) {vals : Nat → Value × Value × Value} (hv : vals i = J.fin) :
   Reach Try.prog false (Ry C (· = i) J.kb) (Dk C J.kb i) (WK C J i) (WBx C Try.prog vals J.kb i) (baseD 53) [bot] [] 60 (T53 C J) [.code body53] := by
 have W : Way Try.prog (Ry C (· = i) J.kb) (Dk C J.kb i) (WK C J i) := ⟨WK.rely fun b h => h, fun w _ => ⟨Wr.refl C i w, by simp⟩⟩
 have hsz : (T53 C J).size = 10 := rfl
 have g0 : evalT (T53 C J) (.tmp 0) = .pointer (some (stA C.Wg)) := rfl
 have g1 : evalT (T53 C J) (.tmp 1) = .pointer (some ⟨J.bf, 0, none⟩) := rfl
 have g2 : evalT (T53 C J) (.tmp 2) = .pointer (some ⟨J.bi, 0, none⟩) := rfl
 have g3 : evalT (T53 C J) (.tmp 3) = .pointer (some ⟨J.br, 0, none⟩) := rfl
 have g4 : evalT (T53 C J) (.tmp 4) = .pointer (some ⟨J.bl, J.lo, none⟩) := rfl
 generalize T53 C J = T at *
 simp only [body53, Try.f53, Option.getD_some]
 refine Reach.more (n := 50 + 2) (by omega) (Reach.runs (n := 50) W (by simp [baseD]) (offP_ok _) 2 ?_)
 simp only [evRun, evStep, zqa, Nat.zero_add, List.range, List.range.loop]
 refine Reach.more (n := 49 + 1) (by omega) (Reach.defer W (by simp [baseD]) rfl rfl rfl ?_)
 rw [map1 (p := .pointer (some (stA C.Wg))) g0]
 refine Reach.more (n := 47 + 2) (by omega) (Reach.runs (n := 47) W (by simp [baseD]) (offP_ok _) 2 ?_)
 simp only [evRun, evStep, zqa, Nat.reduceAdd, Nat.zero_add, List.range, List.range.loop, List.getElem_toArray, List.getElem_cons_zero, putT_none]
 refine Reach.more (n := 46 + 1) (by omega) (Reach.opv W (by simp [baseD]) (.pointer (some ⟨C.F, 0, none⟩)) rfl rfl (fun w hw => (run_ld1 (ty := 65) (ad := ⟨J.bf, 0, none⟩) rfl (by simp only [g1]) hw.f (.inr (.inl rfl))).1) (fun w hw e he => by rw [(run_ld1 (ty := 65) (ad := ⟨J.bf, 0, none⟩) rfl (by simp only [g1]) hw.f (.inr (.inl rfl))).2, Array.mem_singleton] at he; subst he; exact dk_read (.inl (.inl rfl)) hw.f) dk_all ?_)
 refine Reach.more (n := 45 + 1) (by omega) (Reach.opv W (by simp [baseD]) (.int .i64 i) rfl rfl (fun w hw => (run_ld1 (ty := 3) (ad := ⟨J.bi, 0, none⟩) rfl (by simp only [List.getElem_toArray, List.getElem_cons_zero, ↓reduceIte, evalT_put, hsz, Nat.reduceLT, Nat.reduceEqDiff, g2]) hw.ii (.inl rfl)).1) (fun w hw e he => by rw [(run_ld1 (ty := 3) (ad := ⟨J.bi, 0, none⟩) rfl (by simp only [List.getElem_toArray, List.getElem_cons_zero, ↓reduceIte, evalT_put, hsz, Nat.reduceLT, Nat.reduceEqDiff, g2]) hw.ii (.inl rfl)).2, Array.mem_singleton] at he; subst he; exact dk_read (.inr (.inl rfl)) hw.ii) dk_all ?_)
 refine Reach.more (n := 44 + 1) (by omega) (Reach.opv W (by simp [baseD]) (.agg #[.int .i64 J.x, .int .i64 J.y]) rfl rfl (fun w hw => (run_ld30 (ad := ⟨J.br, 0, none⟩) rfl (by simp only [zqc, ↓reduceIte, evalT_put, size_putT, hsz, Nat.reduceLT, Nat.reduceEqDiff, g3]) hw.r0 hw.r1).1) (fun w hw e he => by
   rw [(run_ld30 (ad := ⟨J.br, 0, none⟩) rfl (by simp only [zqc, ↓reduceIte, evalT_put, size_putT, hsz, Nat.reduceLT, Nat.reduceEqDiff, g3]) hw.r0 hw.r1).2] at he
   simp only [List.mem_toArray, List.mem_cons, List.not_mem_nil, or_false] at he
   rcases he with rfl | rfl
   · exact dk_read (.inr (.inr rfl)) hw.r0
   · exact dk_read (.inr (.inr rfl)) hw.r1) dk_all ?_)
 refine Reach.more (n := 43 + 1) (by omega) (Reach.opv W (by simp [baseD]) (.int .i64 J.least) rfl rfl (fun w hw => (run_ld1 (ty := 3) (ad := ⟨J.bl, J.lo, none⟩) rfl (by simp only [zqc, ↓reduceIte, evalT_put, size_putT, hsz, Nat.reduceLT, Nat.reduceEqDiff, g4]) hw.l (.inl rfl)).1) (fun w hw e he => by rw [(run_ld1 (ty := 3) (ad := ⟨J.bl, J.lo, none⟩) rfl (by simp only [zqc, ↓reduceIte, evalT_put, size_putT, hsz, Nat.reduceLT, Nat.reduceEqDiff, g4]) hw.l (.inl rfl)).2, Array.mem_singleton] at he; subst he; exact dk_read (.inl (.inr rfl)) hw.l) dk_all ?_)
 refine Reach.more (n := 20 + 1) (by omega) (Reach.call W (by simp [baseD]) rfl rfl rfl Try.func55 (by kernel_rfl) (c := body55) rfl ?_)
 refine boxIt (T53 := _) Q hv (size_slots _ _ (by simp [Try.f55])) ?_ ?_ ?_ ?_
 · refine (evalT_slots _ _ _ (by simp)).trans ?_
   simp [evalT_put, size_putT, hsz]
 · refine (evalT_slots _ _ _ (by simp)).trans ?_
   simp [evalT_put, size_putT, hsz]
 · refine (evalT_slots _ _ _ (by simp)).trans ?_
   simp [evalT_put, size_putT, hsz]
 · refine (evalT_slots _ _ _ (by simp)).trans ?_
   simp [evalT_put, size_putT, hsz]
theorem workOk (Q : Geo2 C J i) {vals : Nat → Value × Value × Value} (hv : vals i = J.fin) (w : World) (hw : WK C J i w) : GW C Try.prog J.kb i (WBx C Try.prog vals J.kb i) 61 (born Try.prog (call53 C J)) w := by
 refine Goes.step rfl fun w₁ h₁ => ?_
 have hw₁ := WK.rely (fun b h => h) w w₁ hw h₁
 rw [born_step]
 exact ⟨⟨Wr.refl C i w₁, by simp⟩, walk53 Q hv w₁ hw₁⟩
end
end Go.Proofs.Ytcoppnbjpncdcaa.Q
end
section
set_option linter.unusedVariables false
set_option linter.unusedSimpArgs false
namespace Go.Proofs.Ytcoppnbjpncdcaa.Q
open Go Go.Conc
open Go.ConcR (mk KK WgAt wgBlock stA smA rd wr)
structure Plan where
 V : Nat
 voff : Nat
 bf : Nat
 bl : Nat
 xs : Nat → Int
 ys : Nat → Int
 least : Int
 sl : Value
 lo : Nat
section
variable (C : Cfg) (L : Plan)
def Plan.kr : Nat → Prop := fun b => b = L.V ∨ b = L.bf ∨ b = L.bl
def Plan.k0 : Nat → Prop := fun b => b = L.bf ∨ b = L.bl
def Plan.job (j bi br : Nat) : Job := ⟨L.bf, L.bl, bi, br, L.xs j, L.ys j, L.least, L.lo⟩
structure KM (w : World) : Prop where
 live : Live C w
 f : w.cell? ⟨L.bf, 0, none⟩ = some (.pointer (some ⟨C.F, 0, none⟩))
 l : w.cell? ⟨L.bl, L.lo, none⟩ = some (.int .i64 L.least)
 ex : ∀ j, j < C.n → w.cell? ⟨L.V, L.voff + 2 * j, none⟩ = some (.int .i64 (L.xs j))
 ey : ∀ j, j < C.n → w.cell? ⟨L.V, L.voff + 2 * j + 1, none⟩ = some (.int .i64 (L.ys j))
structure KP (bs : List (Nat × Obj)) (w : World) : Prop where
 k : KM C L w
 b : ∀ x ∈ bs, w.heap[x.1]? = some x.2
end
section
variable {C : Cfg} {L : Plan} {Pv : Nat → Prop}
theorem KM.rely {Kb : Nat → Prop} {me : Nat → Prop} (hk : ∀ b, L.kr b → Kb b) (w w₁ : World) (h : KM C L w) (r : Ry C me Kb w w₁) : KM C L w₁ :=
 ⟨r.live h.live, cell_rely r (hk _ (.inr (.inl rfl))) h.f, cell_rely r (hk _ (.inr (.inr rfl))) h.l, fun j hj => cell_rely r (hk _ (.inl rfl)) (h.ex j hj), fun j hj => cell_rely r (hk _ (.inl rfl)) (h.ey j hj)⟩
theorem KP.rely {bs : List (Nat × Obj)} (hb : ∀ x ∈ bs, Pv x.1) (w w₁ : World) (h : KP C L bs w) (r : Rm C L.kr Pv w w₁) : KP C L bs w₁ :=
 ⟨h.k.rely (fun b hb => .inl hb) w w₁ r, fun x hx => (r.low _ (.inr (hb x hx)) (Array.getElem?_eq_some_iff.1 (h.b x hx)).1).trans (h.b x hx)⟩
theorem Mn.refl (Pv : Nat → Prop) (w : World) : Mn Pv w w := ⟨rfl, rfl, rfl, rfl, fun _ _ => rfl, fun _ h => h⟩
theorem wayM {bs : List (Nat × Obj)} (hb : ∀ x ∈ bs, Pv x.1) : Way Try.prog (Rm C L.kr Pv) (Dm C L.kr Pv) (KP C L bs) := ⟨KP.rely hb, fun w _ => ⟨Mn.refl Pv w, by simp⟩⟩
theorem dm_all (w : World) (es : Array Event) (h : ∀ e ∈ es, Dm C L.kr Pv w w #[e]) : Dm C L.kr Pv w w es := ⟨Mn.refl Pv w, fun e he => (h e he).2 e (by simp)⟩
theorem dm_read {w : World} {a : Addr} {v : Value} (hb : L.kr a.block) (h : w.cell? a = some v) : Dm C L.kr Pv w w #[⟨.cell a, false, false⟩] :=
 ⟨Mn.refl Pv w, fun e he => by rw [Array.mem_singleton] at he; subst he; exact .inl ⟨a, false, rfl, lt_of_cell h, .inr ⟨rfl, hb⟩⟩⟩
theorem Reach.st {P : Program} {main : Bool} {R : World → World → Prop} {D : World → World → Array Event → Prop} {K K' : World → Prop} {Stop : Goroutine → World → Prop} {b : Frame} {cs : List Frame} {ds : List Deferred} (W : Way P R D K) (hb : b.kind ≠ .early) {n : Nat} {T : Array Value} {ops : Array Oper} {j : Nat} {is : List Nat} {k : List Item} {o : Oper} (f : World → World) (ho : ops[j]? = some o) (hwn : Region.wanted o (yieldedT ops T) = true)
   (h1 : ∀ w, K w → (execOp (evalT T) o).run P w = .ok .skip (f w)) (h2 : ∀ w, K w → ∀ es : Array Event, (∀ e ∈ es, e ∈ (execOp (evalT T) o).events P w #[]) → D w (f w) es) (hK : ∀ w, K w → K' (f w))
   (h : Reach P main R D K' Stop b cs ds n (putT T o.dst undef) (.inRegion ops is :: k)) : Reach P main R D K Stop b cs ds (n + 1) T (.inRegion ops (j :: is) :: k) := by
 intro w hw
 refine Goes.step rfl fun w₁ h₁' => ?_
 have hw₁ := W.rely w w₁ hw h₁'
 rw [stepG_none (a := ⟨T, ds⟩) ho (wantedA hwn) hb (by rw [evalA]; exact h1 w₁ hw₁), putA]
 exact ⟨h2 w₁ hw₁ _ fun e he => by have := mem_listed he; rw [evalA] at this; exact this, h _ (hK w₁ hw₁)⟩
theorem run_alloc3 {w : World} {ρ : Operand → Value} {o : Oper} (hop : o.op = .alloc 3) :
   (execOp ρ o).run Try.prog w = .ok (.value (.pointer (some ⟨w.heap.size, 0, none⟩))) { w with heap := w.heap.push (.cells #[.int .i64 0] 3) } ∧ (execOp ρ o).events Try.prog w #[] = #[] := by
 unfold execOp
 simp only [hop]
 constructor <;> simp [go_sem, Instr.alloc, Go.newVar, Go.newRow, Value.cells]
theorem run_alloc30 {w : World} {ρ : Operand → Value} {o : Oper} (hop : o.op = .alloc 30) :
   (execOp ρ o).run Try.prog w = .ok (.value (.pointer (some ⟨w.heap.size, 0, none⟩))) { w with heap := w.heap.push (.cells #[.int .i64 0, .int .i64 0] 30) } ∧ (execOp ρ o).events Try.prog w #[] = #[] := by
 unfold execOp
 simp only [hop]
 constructor <;> simp [go_sem, Instr.alloc, Go.newVar, Go.newRow, Value.cells]
theorem run_ixV {w : World} {ρ : Operand → Value} {o : Oper} {x y : Operand} {bl off n c i : Nat} (hop : o.op = .indexAddr 28 x y) (hx : ρ x = .slice (some ⟨bl, off, none⟩) n c) (hy : ρ y = .int .i64 i) (hi : i < n) :
   (execOp ρ o).run Try.prog w = .ok (.value (.pointer (some ⟨bl, off + 2 * i, none⟩))) w ∧ (execOp ρ o).events Try.prog w #[] = #[] := by
 unfold execOp
 simp only [hop, hx, hy]
 constructor <;> simp [go_sem, hi, Nat.mul_comm]
theorem run_mkfunc {w : World} {ρ : Operand → Value} {o : Oper} {xs : Array Operand} (hop : o.op = .makeFunc (.func 53) #[] xs) :
   (execOp ρ o).run Try.prog w = .ok (.value (.func (.func 53) #[] (xs.map ρ))) w ∧ (execOp ρ o).events Try.prog w #[] = #[] := by
 unfold execOp
 simp only [hop]
 constructor <;> simp [go_sem]
theorem run_mkfunc5 {w : World} {ρ : Operand → Value} {o : Oper} {a b c d e : Operand} {va vb vc vd ve : Value} (hop : o.op = .makeFunc (.func 53) #[] #[a, b, c, d, e]) (ha : ρ a = va) (hb : ρ b = vb) (hc : ρ c = vc) (hd : ρ d = vd) (he : ρ e = ve) :
   (execOp ρ o).run Try.prog w = .ok (.value (.func (.func 53) #[] #[va, vb, vc, vd, ve])) w ∧ (execOp ρ o).events Try.prog w #[] = #[] := by
 have h := run_mkfunc (w := w) (ρ := ρ) hop
 simp only [List.map_toArray, List.map_cons, List.map_nil, ha, hb, hc, hd, he] at h
 exact h
theorem run_go {w : World} {ρ : Operand → Value} {o : Oper} {x : Operand} {cap : Array Value} {ats : Array TypeId} (hop : o.op = .go { callee := .value x, args := #[], argTypes := ats }) (hx : ρ x = .func (.func 53) #[] cap) :
   (execOp ρ o).run Try.prog w = .ok (.spawn { target := .fn (.func 53) cap, args := #[] }) w ∧ (execOp ρ o).events Try.prog w #[] = #[] := by
 unfold execOp
 simp only [hop]
 constructor <;> simp [resolve, Deferred.ofValue, hx]
theorem Reach.marked {P : Program} {main : Bool} {R : World → World → Prop} {D : World → World → Array Event → Prop} {K : World → Prop} {Stop : Goroutine → World → Prop} {b : Frame} {cs : List Frame} {ds : List Deferred} {Wg : Nat} (W : Way P R D K) (hb : b.kind ≠ .early) {n : Nat} {T : Array Value} {ops : Array Oper} {j : Nat} {is : List Nat} {k : List Item} {o : Oper} {xs : Array Operand} {ats : Array TypeId} {f : FuncId} {fn : Func} {mm : Addr → Mark}
   (ho : ops[j]? = some o) (hwn : Region.wanted o (yieldedT ops T) = true) (hmm : ∀ ad g, mm ad ≠ .extern g) (hop : o.op = .call { callee := .value (.func f), args := xs, argTypes := ats })
   (hf : P.funcs[f]? = some fn) (h1 : (fn.name == "runtime.NumGoroutine") = false) (h2 : fn.body.isNone = true) (h3 : Extern.findNext fn = none) (h4 : Extern.find fn = some (Extern.Race.marked mm))
   (hx : (xs.map (evalT T))[0]? = some (.pointer (some (smA Wg)))) (hD : ∀ w, D w w #[mk (mm (smA Wg))]) (h : Reach P main R D K Stop b cs ds n (putT T o.dst (.tuple #[])) (.inRegion ops is :: k)) : Reach P main R D K Stop b cs ds (n + 1) T (.inRegion ops (j :: is) :: k) := by
 intro w hw
 refine Goes.step rfl fun w₁ h₁' => ?_
 have hw₁ := W.rely w w₁ hw h₁'
 rw [stepG_markAt (a := ⟨T, ds⟩) mm hmm ho (wantedA hwn) hb hop hf h1 h2 h3 h4 (by rw [evalA]; exact hx), putA]
 exact ⟨hD w₁, h w₁ hw₁⟩
theorem cv_one32 {w : World} {ρ : Operand → Value} {o : Oper} {x : Operand} (hop : o.op = .convert 3 21 x) (hx : ρ x = .int .i64 1) :
   (execOp ρ o).run Try.prog w = .ok (.value (.int .i32 1)) w ∧ (execOp ρ o).events Try.prog w #[] = #[] := by
 have h := run_cv (w := w) .i32 hop hx (.inr (.inr (.inr ⟨rfl, rfl, rfl⟩)))
 rw [show IntKind.i32.wrap 1 = 1 by decide] at h
 exact h
set_option maxHeartbeats 4000000 in
set_option maxRecDepth 100000 in
theorem s16P {bs : List (Nat × Obj)} (hb : ∀ x ∈ bs, Pv x.1) {Stop : Goroutine → World → Prop} {cs : List Frame} {T : Array Value} {v wt : Nat} (hsz : T.size = 117) (h0 : evalT T (.tmp 0) = .pointer (some (stA C.Wg))) (h1 : evalT T (.tmp 1) = .int .i64 1) (h4 : evalT T (.tmp 4) = .bool false) (h6 : evalT T (.tmp 6) = .int .u64 (sW v wt)) (hv : 0 < v) (hv17 : v < 17) (hwt : wt = 0)
   (hQ : ∀ T l, Ended l → Reach Try.prog true (Rm C L.kr Pv) (Dm C L.kr Pv) (KP C L bs) Stop (base 52) cs [dcall 70 #[]] 100 T l) : Reach Try.prog true (Rm C L.kr Pv) (Dm C L.kr Pv) (KP C L bs) Stop (base 52) cs [dcall 70 #[]] 300 T [.code c16] := by
 have W := wayM (C := C) (L := L) hb
 have e := e16
 simp only [Try.f52, Option.getD_some, snd] at e
 rw [e]
 clear e
 have qt := w_top (v := v) (wt := wt) hv17 (by omega)
 have qlt : decide ((v : Int) < 0) = false := decide_eq_false (by omega)
 have qfv := w_v (v := v) (wt := wt) hv17 (by omega)
 have qfw := w_w (v := v) (wt := wt) hv17 (by omega)
 have qv : decide (0 < (v : Int)) = true := decide_eq_true (by omega)
 have qwn : ((wt : Int) != 0) = false := by subst hwt; rfl
 have qwe : ((wt : Int) == 0) = true := by subst hwt; rfl
 refine Reach.more (n := 280 + 20) (by omega) (Reach.runs (n := 280) W (by simp [base]) (offP_ok _) 20 ?_)
 simp only [evRun, evStep, zqa, Nat.reduceAdd, Nat.zero_add, List.range, List.range.loop, zqb, Region.wanted, ↓reduceIte, evPure, evalT_put, evalT_const, size_putT, hsz, Nat.reduceLT, Nat.reduceEqDiff, Option.bind_some, reduceCtorEq, intBin, yieldedT, some_ft, Bool.false_eq_true, h6, qt, b_shr32, Int.reduceLT]
 refine Reach.more (n := 279 + 1) (by omega) (Reach.opq W (by simp [base]) (.int .i32 (IntKind.i32.wrap ((sW v wt).fdiv 4294967296))) rfl rfl (fun w hw => run_cv (k := .u64) .i32 rfl (by simp only [↓reduceIte, evalT_put, size_putT, hsz, Nat.reduceLT]) (.inr (.inl ⟨rfl, rfl, rfl⟩))) ?_)
 refine Reach.more (n := 260 + 19) (by omega) (Reach.runs (n := 260) W (by simp [base]) (offP_ok _) 19 ?_)
 simp only [evRun, evStep, zqa, Nat.reduceAdd, Nat.zero_add, List.range, List.range.loop, zqb, zqc, Region.wanted, ↓reduceIte, evPure, evalT_put, evalT_const, size_putT, hsz, Nat.reduceLT, Nat.reduceEqDiff, reduceCtorEq, intBin, h6, qfv]
 refine Reach.more (n := 259 + 1) (by omega) (Reach.opq W (by simp [base]) (.int .u32 (IntKind.u32.wrap (bits .and .u64 (sW v wt) 2147483647))) rfl rfl (fun w hw => run_cv (k := .u64) .u32 rfl (by simp only [↓reduceIte, evalT_put, size_putT, hsz, Nat.reduceLT]) (.inr (.inr (.inl ⟨rfl, rfl, rfl⟩)))) ?_)
 refine Reach.more (n := 240 + 19) (by omega) (Reach.runs (n := 240) W (by simp [base]) (offP_ok _) 19 ?_)
 simp only [evRun, evStep, zqa, Nat.reduceAdd, Nat.zero_add, List.range, List.range.loop, zqb, zqc, Region.wanted, ↓reduceIte, evPure, evalT_put, evalT_const, size_putT, hsz, Nat.reduceLT, Nat.reduceEqDiff, Option.bind_some, reduceCtorEq, intBin, yieldedT, beq_self_eq_true, h1, qfw, Int.reduceLT, decide_true, gt_iff_lt]
 refine Reach.more (n := 239 + 1) (by omega) (Reach.opq W (by simp [base]) (.int .i32 1) rfl (by simp only [zqb, zqc, Region.wanted, ↓reduceIte, evalT_put, size_putT, hsz, Nat.reduceLT, Nat.reduceEqDiff, Option.bind_some, yieldedT, beq_self_eq_true]) (fun w hw => cv_one32 rfl (by simp only [↓reduceIte, evalT_put, size_putT, hsz, Nat.reduceLT])) ?_)
 cases q1 : ((v : Int) == 1) with
 | true =>
   refine Reach.more (n := 200 + 39) (by omega) (Reach.runs (n := 200) W (by simp [base]) (offP_ok _) 39 ?_)
   simp only [evRun, evStep, zqa, Nat.reduceAdd, Nat.zero_add, List.range, List.range.loop, zqb, zqc, Region.wanted, ↓reduceIte, evPure, evalT_put, size_putT, hsz, Nat.reduceLT, Nat.reduceEqDiff, Option.bind_some, reduceCtorEq, intBin, yieldedT, beq_self_eq_true, h0, off82_2, stA_add1, q1]
   refine Reach.more (n := 199 + 1) (by omega) (Reach.opq W (by simp [base]) (.pointer (some (smA C.Wg))) rfl rfl (fun w hw => let ⟨_, _, hg⟩ := hw.k.live.wg; run_unsafe105 rfl (by simp only [↓reduceIte, evalT_put, size_putT, hsz, Nat.reduceLT]) hg) ?_)
   refine Reach.more (n := 198 + 1) (by omega) (Reach.marked (Wg := C.Wg) (mm := .read) W (by simp [base]) rfl rfl (by simp) rfl Try.func76 x76_n x76_b x76_x x76_f (by simp [evalT_put, size_putT, hsz]) (fun w => ⟨Mn.refl Pv w, fun e he => by rw [Array.mem_singleton] at he; subst he; exact .inr (.inl rfl)⟩) ?_)
   refine Reach.more (n := 120 + 78) (by omega) (Reach.runs (n := 120) W (by simp [base]) (offP_ok _) 78 ?_)
   simp only [evRun, evStep, zqa, Nat.reduceAdd, Nat.zero_add, List.range, List.range.loop, zqb, zqc, Region.wanted, ↓reduceIte, evPure, evalT_put, evalT_const, size_putT, hsz, Nat.reduceLT, Nat.reduceEqDiff, Option.bind_some, reduceCtorEq, intBin, yieldedT, some_ft, some_tf, Bool.false_eq_true, qlt, qv, qwn, gt_iff_lt]
   exact Reach.more (n := 100) (by omega) (hQ _ _ (.inr ⟨_, rfl⟩))
 | false =>
   refine Reach.more (n := 120 + 119) (by omega) (Reach.runs (n := 120) W (by simp [base]) (offP_ok _) 119 ?_)
   simp only [evRun, evStep, zqa, Nat.reduceAdd, Nat.zero_add, List.range, List.range.loop, zqb, zqc, Region.wanted, ↓reduceIte, evPure, evalT_put, evalT_const, size_putT, hsz, Nat.reduceLT, Nat.reduceEqDiff, Option.bind_some, reduceCtorEq, intBin, yieldedT, beq_self_eq_true, some_ft, some_tf, Bool.false_eq_true, qlt, qv, qwn, gt_iff_lt, q1]
   exact Reach.more (n := 100) (by omega) (hQ _ _ (.inr ⟨_, rfl⟩))
noncomputable def body38 : Code := Try.f38.body.getD .skip
noncomputable def lp38 : Code := inLp (snd (fst (snd (snd (snd (snd body38))))))
noncomputable def rest38 : Code := snd (snd (snd (snd (snd body38))))
noncomputable def in38 : Code := inBl (fst (snd (snd lp38)))
noncomputable def m8 : Code := snd (snd in38)
noncomputable def m9 : Code := snd (snd (snd lp38))
noncomputable def ops7 : Array Oper := opsOf (fst (snd in38))
noncomputable def ops8 : Array Oper := opsOf m8
noncomputable def tlLoop : List Item := [.inLoop lp38, .inBlock 0, .code rest38]
structure MT (C : Cfg) (L : Plan) (T : Array Value) : Prop where
 size : T.size = 63
 s5 : evalT T (.tmp 5) = .pointer (some ⟨L.bl, L.lo, none⟩)
 s7 : evalT T (.tmp 7) = L.sl
 s8 : evalT T (.tmp 8) = .pointer (some ⟨L.bf, 0, none⟩)
 s9 : evalT T (.tmp 9) = .pointer (some (stA C.Wg))
 s26 : evalT T (.tmp 26) = L.sl
 s27 : evalT T (.tmp 27) = .int .i64 C.n
abbrev boxes (L : Plan) (j bi br : Nat) : List (Nat × Obj) := [(bi, .cells #[.int .i64 j] 3), (br, .cells #[.int .i64 (L.xs j), .int .i64 (L.ys j)] 30)]
theorem boxes_pv (L : Plan) (j bi br : Nat) : ∀ x ∈ boxes L j bi br, pv bi br x.1 := by
 intro x hx
 simp only [boxes, List.mem_cons, List.not_mem_nil, or_false] at hx
 rcases hx with rfl | rfl
 · exact .inl rfl
 · exact .inr rfl
structure GeoM (C : Cfg) (L : Plan) (vals : Nat → Value × Value × Value) : Prop where
 apart : C.Apart
 gv : C.gv = .slice (some ⟨C.G, 0, none⟩) C.n C.n
 hv : C.hv = .slice (some ⟨C.H, 0, none⟩) C.n C.n
 f : L.bf ≠ C.F ∧ L.bl ≠ C.F
 fin : ∀ j bi br, j < C.n → vals j = (L.job j bi br).fin
set_option maxHeartbeats 4000000 in
set_option maxRecDepth 100000 in
theorem toMGo {vals : Nat → Value × Value × Value} (Q : GeoM C L vals) {j bi br : Nat} (hj : j < C.n) (hbF : bi ≠ C.F ∧ br ≠ C.F) {b : Frame} (hb : b.kind ≠ .early) {cs : List Frame} {Nx : Goroutine → World → Prop} {T : Array Value} (hT : MT C L T) (h28 : evalT T (.tmp 28) = .int .i64 j) (h10 : evalT T (.tmp 10) = .pointer (some ⟨bi, 0, none⟩)) (h11 : evalT T (.tmp 11) = .pointer (some ⟨br, 0, none⟩))
   (hNx : ∀ T' ops, MT C L T' → evalT T' (.tmp 28) = .int .i64 j → ∀ w, KM C L w → Nx (G (b.at ⟨T', []⟩ (.inRegion ops [] :: .inBlock 1 :: .code m9 :: tlLoop)) cs) w) :
   Reach Try.prog true (Rm C L.kr (pv bi br)) (Dm C L.kr (pv bi br)) (KP C L (boxes L j bi br)) (MGo C Try.prog vals L.k0 j Nx bi br) b cs [] 50 T (.inRegion ops7 [] :: .code m8 :: .inBlock 1 :: .code m9 :: tlLoop) := by
 have W := wayM (C := C) (L := L) (boxes_pv L j bi br)
 obtain ⟨hsz, h5, h7, h8, h9, h26, h27⟩ := hT
 have e : m8 = .region 8 ops8 false := rfl
 have hs : ops8.size = 2 := by kernel_rfl
 rw [e]
 clear e
 refine Reach.more (n := 40 + 2) (by omega) (Reach.runs (n := 40) W hb (offP_ok _) 2 ?_)
 simp only [evRun, evStep, List.range, List.range.loop, hs]
 obtain ⟨fv, hfv⟩ : ∃ fv : Value, fv = .func (.func 53) #[] #[.pointer (some (stA C.Wg)), .pointer (some ⟨L.bf, 0, none⟩), .pointer (some ⟨bi, 0, none⟩), .pointer (some ⟨br, 0, none⟩), .pointer (some ⟨L.bl, L.lo, none⟩)] := ⟨_, rfl⟩
 refine Reach.more (n := 39 + 1) (by omega) (Reach.opq W hb (o := ops8[0]'(by rw [hs]; decide)) fv rfl rfl (fun w hw => by rw [hfv]; exact run_mkfunc5 rfl h9 h8 h10 h11 h5) ?_)
 rw [show (ops8[0]'(by rw [hs]; decide)).dst = some 34 from rfl]
 intro w hw
 refine Goes.stop fun w₁ h₁ => ?_
 have hw₁ := W.rely w w₁ hw h₁
 have hbi : w₁.cell? ⟨bi, 0, none⟩ = some (.int .i64 j) := by have := hw₁.b _ (List.mem_cons_self ..); simp [World.cell?, this]
 have hbr := hw₁.b (br, .cells #[.int .i64 (L.xs j), .int .i64 (L.ys j)] 30) (List.mem_cons_of_mem _ (List.mem_cons_self ..))
 have hb0 : w₁.cell? ⟨br, 0, none⟩ = some (.int .i64 (L.xs j)) := by simp [World.cell?, hbr]
 have hb1 : w₁.cell? ⟨br, 1, none⟩ = some (.int .i64 (L.ys j)) := by simp [World.cell?, hbr]
 have hr := run_go (w := w₁) (ρ := evalT (putT T (some 34) fv)) (o := ops8[1]'(by rw [hs]; decide)) (x := .tmp 34) rfl ((evalT_put _ _ _ _ (by rw [hsz]; decide)).trans ((if_pos rfl).trans hfv))
 have hst := stepG_spawn (P := Try.prog) (main := true) (b := b) (a := ⟨putT T (some 34) fv, []⟩) (k := .inBlock 1 :: .code m9 :: tlLoop) (cs := cs) (w := w₁) (ops := ops8) (i := 1) (rest := []) (d := call53 C (L.job j bi br)) rfl (wantedA rfl) hb (by rw [evalA]; exact hr.1) rfl
 have hls : listed Try.prog b.fn (Act.mk (putT T (some 34) fv) []) (ops8[1]'(by rw [hs]; decide)) w₁ = #[] := by unfold listed; rw [evalA, hr.2]; exact seen_none Try.prog _
 rw [show listed Try.prog b.fn (Act.mk (putT T (some 34) fv) []) _ w₁ = #[] from hls, putA] at hst
 have e2 : ∀ t : Nat, t ≠ 34 → evalT (putT T (some 34) fv) (.tmp t) = evalT T (.tmp t) := fun t ht => by rw [evalT_put _ _ _ _ (by rw [hsz]; decide), if_neg (show ¬ (t : Nat) = 34 from ht)]
 refine ⟨rfl, _, born Try.prog (call53 C (L.job j bi br)), 61, hst, rfl, fun hz => ?_, ?_⟩
 · exact workOk (J := L.job j bi br) ⟨Q.apart, Q.gv, Q.hv, hj, Q.f.1, Q.f.2, hbF.1, hbF.2⟩ (Q.fin j bi br hj) w₁ ⟨hw₁.k.live, hw₁.k.f, hbi, hb0, hb1, hw₁.k.l, hz.1, hz.2.1, hz.2.2⟩
 · exact hNx _ _ ⟨by rw [size_putT]; exact hsz, (e2 5 (by decide)).trans h5, (e2 7 (by decide)).trans h7, (e2 8 (by decide)).trans h8, (e2 9 (by decide)).trans h9, (e2 26 (by decide)).trans h26, (e2 27 (by decide)).trans h27⟩ ((e2 28 (by decide)).trans h28) w₁ hw₁.k
end
end Go.Proofs.Ytcoppnbjpncdcaa.Q
end
section
set_option linter.unusedVariables false
set_option linter.unusedSimpArgs false
namespace Go.Proofs.Ytcoppnbjpncdcaa.Q
open Go Go.Conc
open Go.ConcR (mk KK WgAt wgBlock stA smA rd wr)
section
variable {C : Cfg} {L : Plan} {Pv : Nat → Prop}
structure Far (C : Cfg) (L : Plan) (b : Nat) : Prop where
 f : b ≠ C.F
 g : b ≠ C.G
 h : b ≠ C.H
 w : b ≠ C.Wg
 bf : b ≠ L.bf
 bl : b ≠ L.bl
 v : b ≠ L.V
theorem KM.far {w : World} (h : KM C L w) {j : Nat} (hj : j < C.n) {b : Nat} (hb : w.heap.size ≤ b) : Far C L b := by
 obtain ⟨l1, l2, l3, l4⟩ := live_lt h.live
 have l5 := lt_of_cell h.f
 have l6 := lt_of_cell h.l
 have l7 := lt_of_cell (h.ex j hj)
 simp only at l5 l6 l7
 exact ⟨by omega, by omega, by omega, by omega, by omega, by omega, by omega⟩
theorem Live.other {w w' : World} (h : Live C w) (hb : ∀ b, b = C.F ∨ b = C.G ∨ b = C.H ∨ b = C.Wg → w'.heap[b]? = w.heap[b]?) : Live C w' := by
 obtain ⟨⟨m, ms, hm⟩, ⟨st, sm, hg⟩, ⟨cs, hG, q1⟩, ⟨ds, hH, q2⟩⟩ := h
 exact ⟨⟨m, ms, (hb _ (.inl rfl)).trans hm⟩, ⟨st, sm, (hb _ (.inr (.inr (.inr rfl)))).trans hg⟩, ⟨cs, (hb _ (.inr (.inl rfl))).trans hG, q1⟩, ⟨ds, (hb _ (.inr (.inr (.inl rfl)))).trans hH, q2⟩⟩
theorem KM.other {w w' : World} (h : KM C L w) (hl : Live C w') (hb : ∀ b, L.kr b → b < w.heap.size → w'.heap[b]? = w.heap[b]?) : KM C L w' :=
 ⟨hl, (cell_of_block' (hb _ (.inr (.inl rfl)) (lt_of_cell h.f))).trans h.f, (cell_of_block' (hb _ (.inr (.inr rfl)) (lt_of_cell h.l))).trans h.l,
   fun j hj => (cell_of_block' (hb _ (.inl rfl) (lt_of_cell (h.ex j hj)))).trans (h.ex j hj), fun j hj => (cell_of_block' (hb _ (.inl rfl) (lt_of_cell (h.ey j hj)))).trans (h.ey j hj)⟩
theorem push_old (w : World) (ob : Obj) {b : Nat} (hb : b < w.heap.size) : (w.heap.push ob)[b]? = w.heap[b]? := by rw [Array.getElem?_push, if_neg (by omega)]
theorem KM.push {w : World} (h : KM C L w) (ob : Obj) : KM C L { w with heap := w.heap.push ob } := by
 obtain ⟨l1, l2, l3, l4⟩ := live_lt h.live
 refine h.other (h.live.other fun b hb => push_old w ob ?_) fun b _ hb => push_old w ob hb
 rcases hb with rfl | rfl | rfl | rfl <;> assumption
theorem KM.setFar {w : World} (h : KM C L w) {b : Nat} (hb : Far C L b) (off : Nat) (v : Value) : KM C L (w.setCell ⟨b, off, none⟩ v) := by
 refine h.other (h.live.other fun c hc => heap_set w _ v c ?_) fun c hc _ => heap_set w _ v c ?_
 · rcases hc with rfl | rfl | rfl | rfl
   · exact Ne.symm hb.f
   · exact Ne.symm hb.g
   · exact Ne.symm hb.h
   · exact Ne.symm hb.w
 · rcases hc with rfl | rfl | rfl
   · exact Ne.symm hb.v
   · exact Ne.symm hb.bf
   · exact Ne.symm hb.bl
theorem KM.setWg {w : World} (h : KM C L w) (A : C.Apart) (hk : ∀ b, L.kr b → b ≠ C.Wg) {st sm : Int} (hW : WgAt C.tW C.Wg w st sm) (st' : Int) : KM C L (w.setCell (stA C.Wg) (.int .u64 st')) :=
 h.other (live_st h.live hW A st') fun b hb _ => heap_set w _ _ _ (hk b hb)
section
variable {vals : Nat → Value × Value × Value} {j bi br : Nat} {b : Frame} {cs : List Frame} {Nx : Goroutine → World → Prop} {T : Array Value}
set_option maxHeartbeats 1000000 in
set_option maxRecDepth 100000 in
theorem toMSe (Q : GeoM C L vals) (hj : j < C.n) (hbF : bi ≠ C.F ∧ br ≠ C.F) (hb : b.kind ≠ .early) (hT : MT C L T) (h28 : evalT T (.tmp 28) = .int .i64 j) (h10 : evalT T (.tmp 10) = .pointer (some ⟨bi, 0, none⟩)) (h11 : evalT T (.tmp 11) = .pointer (some ⟨br, 0, none⟩))
   (hNx : ∀ T' ops, MT C L T' → evalT T' (.tmp 28) = .int .i64 j → ∀ w, KM C L w → Nx (G (b.at ⟨T', []⟩ (.inRegion ops [] :: .inBlock 1 :: .code m9 :: tlLoop)) cs) w) {T52 : Array Value} {l : List Item} (hl : Ended l) :
   Reach Try.prog true (Rm C L.kr (pv bi br)) (Dm C L.kr (pv bi br)) (KP C L (boxes L j bi br)) (MSe C Try.prog vals L.kr L.k0 j Nx bi br) (base 52) (b.at ⟨T, []⟩ (.inRegion ops7 [0] :: .code m8 :: .inBlock 1 :: .code m9 :: tlLoop) :: cs) [dcall 70 #[]] 100 T52 l := by
 have W := wayM (C := C) (L := L) (boxes_pv L j bi br)
 refine Reach.more (n := 99 + 1) (by omega) (Reach.ret W hl ?_)
 intro w hw
 refine Goes.stop fun w₁ h₁ => ?_
 have hw₁ := W.rely w w₁ hw h₁
 refine ⟨rfl, _, 51, stepG_unwind_entry (a := ⟨T52, dcall 70 #[] :: []⟩) (v := .tuple #[]) (evs := #[mk .enable]) rfl Try.func70 x70_n x70_b x70_x x70_f (by simp [Extern.Race.none_]) (by simp [mk]) (by simp [mk]), ?_⟩
 refine (?_ : ReachR Try.prog true (Rm C L.kr (pv bi br)) (Dm C L.kr (pv bi br)) (KP C L (boxes L j bi br)) (MGo C Try.prog vals L.k0 j Nx bi br) (base 52) (b.at ⟨T, []⟩ (.inRegion ops7 [0] :: .code m8 :: .inBlock 1 :: .code m9 :: tlLoop) :: cs) [] 51 T52 l) w₁ hw₁
 refine ReachR.leave0 (n := 50) W rfl Try.func52 rfl ?_
 rw [show (ops7[0]?).bind (·.dst) = some 33 from rfl]
 have e2 : ∀ t : Nat, t ≠ 33 → evalT (putT T (some 33) (.tuple #[])) (.tmp t) = evalT T (.tmp t) := fun t ht => by rw [evalT_put _ _ _ _ (by rw [hT.size]; decide), if_neg (show ¬ (t : Nat) = 33 from ht)]
 exact toMGo Q hj hbF hb ⟨by rw [size_putT]; exact hT.size, (e2 5 (by decide)).trans hT.s5, (e2 7 (by decide)).trans hT.s7, (e2 8 (by decide)).trans hT.s8, (e2 9 (by decide)).trans hT.s9, (e2 26 (by decide)).trans hT.s26, (e2 27 (by decide)).trans hT.s27⟩
   ((e2 28 (by decide)).trans h28) ((e2 10 (by decide)).trans h10) ((e2 11 (by decide)).trans h11) hNx
end
section
variable {vals : Nat → Value × Value × Value} {j bi br : Nat} {cs : List Frame} {Nx : Goroutine → World → Prop}
set_option maxHeartbeats 4000000 in
set_option maxRecDepth 100000 in
theorem addP (A : C.Apart) (hk : ∀ b, L.kr b → b ≠ C.Wg) (hpW : bi ≠ C.Wg ∧ br ≠ C.Wg)
   (hQ : ∀ T l, Ended l → Reach Try.prog true (Rm C L.kr (pv bi br)) (Dm C L.kr (pv bi br)) (KP C L (boxes L j bi br)) (MSe C Try.prog vals L.kr L.k0 j Nx bi br) (base 52) cs [dcall 70 #[]] 100 T l)
   {T : Array Value} (hsz : T.size = 117) (h0 : evalT T (.tmp 0) = .pointer (some (stA C.Wg))) (h1 : evalT T (.tmp 1) = .int .i64 1) :
   Reach Try.prog true (Rm C L.kr (pv bi br)) (Dm C L.kr (pv bi br)) (KP C L (boxes L j bi br)) (MSk C Try.prog vals L.kr L.k0 j Nx bi br) (base 52) cs [] 100 T [.code body52] := by
 have W := wayM (C := C) (L := L) (boxes_pv L j bi br)
 rw [e52]
 simp only [Try.f52, Option.getD_some, snd, fst]
 refine Reach.more (n := 50 + 50) (by omega) (Reach.runs (n := 50) W (by simp [base]) (offP_ok _) 50 ?_)
 simp only [evRun, evStep, zqa, Nat.reduceAdd, Nat.zero_add, List.range, List.range.loop, zqb, Region.wanted, ↓reduceIte, evPure, evalT_put, evalT_const, size_putT, hsz, Nat.reduceLT, reduceCtorEq, intBin, h1, Int.reduceLT, decide_false]
 intro w hw
 refine Goes.stop fun w₁ h₁ => ?_
 have hw₁ := W.rely w w₁ hw h₁
 refine ⟨rfl, _, 200, stepG_mark0 .disable (by simp) rfl (wantedA rfl) (by simp [base]) rfl Try.func69 x69_n x69_b x69_x x69_f, ?_⟩
 rw [putA]
 refine (?_ : Reach Try.prog true (Rm C L.kr (pv bi br)) (Dm C L.kr (pv bi br)) (KP C L (boxes L j bi br)) (MSa C Try.prog vals L.kr L.k0 j Nx bi br) (base 52) cs [] 200 _ _) _ hw₁
 refine Reach.more (n := 190 + 10) (by omega) (Reach.runs (n := 190) W (by simp [base]) (offP_ok _) 10 ?_)
 simp only [evRun, evStep, zqa, Nat.zero_add, List.range, List.range.loop, List.getElem?_toArray, List.getElem?_cons_zero, List.getElem_toArray, List.getElem_cons_zero, Region.wanted, ↓reduceIte, evPure]
 refine Reach.more (n := 189 + 1) (by omega) (Reach.defer W (by simp [base]) rfl rfl rfl ?_)
 rw [show ∀ f : Operand → Value, (#[] : Array Operand).map f = #[] from fun f => by simp]
 refine Reach.more (n := 170 + 19) (by omega) (Reach.runs (n := 170) W (by simp [base]) (offP_ok _) 19 ?_)
 simp only [evRun, evStep, zqa, Nat.zero_add, List.range, List.range.loop, List.getElem?_toArray, List.getElem?_cons_zero, List.getElem_toArray, List.getElem_cons_zero, Region.wanted, ↓reduceIte, evPure, evalT_const, putT_none]
 refine Reach.more (n := 169 + 1) (by omega) (Reach.nothing W (by simp [base]) _ rfl rfl rfl Try.func71 x71_n x71_b x71_x x71_f ?_)
 refine Reach.more (n := 120 + 49) (by omega) (Reach.runs (n := 120) W (by simp [base]) (offP_ok _) 49 ?_)
 simp only [evRun, evStep, zqa, Nat.reduceAdd, Nat.zero_add, List.range, List.range.loop, zqb, List.getElem_toArray, List.getElem_cons_zero, Region.wanted, ↓reduceIte, evPure, evalT_put, size_putT, hsz, Nat.reduceLT, Nat.reduceEqDiff, reduceCtorEq, h0, h1, off82_1, stA_add0]
 refine Reach.more (n := 119 + 1) (by omega) (Reach.opq W (by simp [base]) (.int .u64 1) rfl rfl (fun w _ => cv_one rfl (by simp only [↓reduceIte, evalT_put, size_putT, hsz, Nat.reduceLT])) ?_)
 refine Reach.more (n := 118 + 1) (by omega) (Reach.opq W (by simp [base]) (.int .u64 4294967296) rfl rfl (fun w _ => shl_one rfl (by simp only [zqc, ↓reduceIte, evalT_put, size_putT, hsz, Nat.reduceLT]) (fun _ => rfl)) ?_)
 refine Reach.more (n := 40 + 1) (by omega) (Reach.call W (by simp [base]) rfl rfl rfl Try.func75 (by kernel_rfl) (c := Try.f75.body.getD .skip) rfl ?_)
 refine at75 (d := 4294967296) (Wg := C.Wg) W (size_slots _ _ (by simp [Try.f75])) ((evalT_slots _ _ _ (by simp)).trans (by simp [evalT_put, size_putT, hsz])) ((evalT_slots _ _ _ (by simp)).trans ?hd) (fun T' hs7 g7 g8 => ?_)
 case hd => simp [evalT_put, size_putT, hsz]
 clear hw₁ h₁ hw
 intro w hw
 refine Goes.stop fun w₁ h₁ => ?_
 have hw₁ := W.rely w w₁ hw h₁
 refine ⟨rfl, fun v hv hWg => ?_⟩
 have hWg' : WgAt C.tW C.Wg w₁ (sW v 0) 0 := by rw [← sW_eq]; simpa using hWg
 have e0 := w_inc (wt := 0) hv (by omega)
 have e1 : ((v : Int) + 1) * KK = sW (v + 1) 0 := by rw [← sW_eq]; simp
 rw [e1]
 refine ⟨_, 420, (stepG_add_atomic (ops := ops75) (i := 4) (rest := [5]) rfl (wantedA rfl) (by simp [base]) rfl Try.func95 x95_n x95_b x95_x .u64 x95_f (by rw [evalA]; exact g7) (by rw [evalA]; exact g8) hWg'.cellSt (hWg'.thaw 0)).trans (by rw [e0]; rfl), ?_⟩
 rw [putA]
 have hk' : KP C L (boxes L j bi br) (w₁.setCell (stA C.Wg) (.int .u64 (sW (v + 1) 0))) := by
   refine ⟨hw₁.k.setWg A hk hWg' _, fun x hx => (heap_set w₁ _ _ _ ?_).trans (hw₁.b x hx)⟩
   rcases boxes_pv L j bi br x hx with e | e <;> rw [e]
   · exact hpW.1
   · exact hpW.2
 refine (?_ : Reach Try.prog true (Rm C L.kr (pv bi br)) (Dm C L.kr (pv bi br)) (KP C L (boxes L j bi br)) (MSe C Try.prog vals L.kr L.k0 j Nx bi br) (base 75) _ [] 420 _ [.inRegion ops75 [5], .code .ret]) _ hk'
 refine Reach.more (n := 400 + 10) (by omega) (end75 W (v := .int .u64 (sW (v + 1) 0)) (by rw [size_putT]; exact hs7) ((evalT_put _ _ _ _ (by rw [hs7]; decide)).trans (if_pos rfl)) ?_)
 refine Reach.more (n := 300 + 2) (by omega) (Reach.runs (n := 300) W (by simp [base]) (offP_ok _) 2 ?_)
 simp only [evRun, evStep, zqb, zqc, Region.wanted, ↓reduceIte, evPure, evalT_put, size_putT, hsz, Nat.reduceLT, Option.bind_some]
 refine s16P (boxes_pv L j bi br) (v := v + 1) (wt := 0) ?_ ?_ ?_ ?_ ?_ (by omega) (by omega) rfl hQ
 all_goals simp only [↓reduceIte, evalT_put, size_putT, hsz, Nat.reduceLT, Nat.reduceEqDiff, reduceCtorEq, h0, h1]
end
end
end Go.Proofs.Ytcoppnbjpncdcaa.Q
end
section
set_option linter.unusedVariables false
set_option linter.unusedSimpArgs false
namespace Go.Proofs.Ytcoppnbjpncdcaa.Q
open Go Go.Conc
open Go.ConcR (mk KK WgAt wgBlock stA smA rd wr)
noncomputable def ops5 : Array Oper := opsOf (fst lp38)
noncomputable def ops6 : Array Oper := opsOf (fst in38)
theorem e38 : lp38 = .seq (.region 5 ops5 false) (.seq (.cond (.tmp 29) .skip (.exit 0)) (.seq (.block 1 (.seq (.region 6 ops6 false) (.seq (.region 7 ops7 false) m8))) m9)) := rfl
theorem ops6_size : ops6.size = 7 := by kernel_rfl
theorem ops7_size : ops7.size = 1 := by kernel_rfl
section
variable {C : Cfg} {L : Plan}
theorem dm_store {Pv : Nat → Prop} {w : World} {a : Addr} {v u : Value} (hp : Pv a.block) (hc : w.cell? a = some u) {es : Array Event} (hes : ∀ e ∈ es, e ∈ #[(⟨.cell a, true, false⟩ : Event)]) : Dm C L.kr Pv w (w.setCell a v) es := by
 refine ⟨⟨rfl, rfl, rfl, by simp [World.setCell], fun b hb => heap_set w _ v b fun x => hb (x ▸ hp), fun b hb => cl_set hb⟩, fun e he => ?_⟩
 have := hes e he
 rw [Array.mem_singleton] at this
 exact .inl ⟨a, true, this, by simpa [World.setCell] using lt_of_cell hc, .inl hp⟩
section
variable {vals : Nat → Value × Value × Value} {j : Nat} {b : Frame} {cs : List Frame} {Nx : Goroutine → World → Prop} {T : Array Value}
theorem toMSk (Q : GeoM C L vals) (A : C.Apart) (hk : ∀ b, L.kr b → b ≠ C.Wg) (hj : j < C.n) {bi br : Nat} (hbi : Far C L bi) (hbr : Far C L br) (hne : bi ≠ br) (hb : b.kind ≠ .early)
   (hT : MT C L T) (h28 : evalT T (.tmp 28) = .int .i64 j) (h30 : evalT T (.tmp 30) = .int .i64 j) (h32 : evalT T (.tmp 32) = .agg #[.int .i64 (L.xs j), .int .i64 (L.ys j)]) (h10 : evalT T (.tmp 10) = .pointer (some ⟨bi, 0, none⟩)) (h11 : evalT T (.tmp 11) = .pointer (some ⟨br, 0, none⟩))
   (hNx : ∀ T' ops, MT C L T' → evalT T' (.tmp 28) = .int .i64 j → ∀ w, KM C L w → Nx (G (b.at ⟨T', []⟩ (.inRegion ops [] :: .inBlock 1 :: .code m9 :: tlLoop)) cs) w) :
   Reach Try.prog true (Rm C L.kr (pv bi br)) (Dm C L.kr (pv bi br)) (KP C L [(bi, .cells #[.int .i64 0] 3), (br, .cells #[.int .i64 0, .int .i64 0] 30)]) (MSk C Try.prog vals L.kr L.k0 j Nx bi br) b cs [] 120 T (.inRegion ops6 [5, 6] :: .code (.seq (.region 7 ops7 false) m8) :: .inBlock 1 :: .code m9 :: tlLoop) := by
 have hb0 : ∀ x ∈ [(bi, (.cells #[.int .i64 0] 3 : Obj)), (br, .cells #[.int .i64 0, .int .i64 0] 30)], pv bi br x.1 := by
   intro x hx
   simp only [List.mem_cons, List.not_mem_nil, or_false] at hx
   rcases hx with rfl | rfl
   · exact .inl rfl
   · exact .inr rfl
 have hb1 : ∀ x ∈ [(bi, (.cells #[.int .i64 j] 3 : Obj)), (br, .cells #[.int .i64 0, .int .i64 0] 30)], pv bi br x.1 := by
   intro x hx
   simp only [List.mem_cons, List.not_mem_nil, or_false] at hx
   rcases hx with rfl | rfl
   · exact .inl rfl
   · exact .inr rfl
 have W0 := wayM (C := C) (L := L) hb0
 have W1 := wayM (C := C) (L := L) hb1
 have W := wayM (C := C) (L := L) (boxes_pv L j bi br)
 have i1 : ∀ {w : World} {o : Obj}, KP C L [(bi, o), (br, .cells #[.int .i64 0, .int .i64 0] 30)] w → w.heap[bi]? = some o ∧ w.heap[br]? = some (.cells #[.int .i64 0, .int .i64 0] 30) := fun h => ⟨h.b _ (List.mem_cons_self ..), h.b (br, _) (List.mem_cons_of_mem _ (List.mem_cons_self ..))⟩
 refine Reach.more (n := 119 + 1) (by omega) (Reach.st (K' := KP C L [(bi, .cells #[.int .i64 j] 3), (br, .cells #[.int .i64 0, .int .i64 0] 30)]) W0 hb (o := ops6[5]'(by rw [ops6_size]; decide)) (fun w => w.setCell ⟨bi, 0, none⟩ (.int .i64 j)) rfl rfl (fun w hw => ?_) (fun w hw es hes => ?_) (fun w hw => ?_) ?_)
 · have hc : w.cell? ⟨bi, 0, none⟩ = some (.int .i64 0) := by simp [World.cell?, (i1 hw).1]
   have hz : w.frozen? ⟨bi, 0, none⟩ = false := by simp [World.frozen?, (i1 hw).1]
   exact (run_st1 (ty := 3) (x := .tmp 10) (y := .tmp 30) rfl h10 h30 (.inl rfl) (.inl ⟨_, rfl⟩) hc hz).1
 · have hc : w.cell? ⟨bi, 0, none⟩ = some (.int .i64 0) := by simp [World.cell?, (i1 hw).1]
   have hz : w.frozen? ⟨bi, 0, none⟩ = false := by simp [World.frozen?, (i1 hw).1]
   refine dm_store (a := ⟨bi, 0, none⟩) (.inl rfl) hc fun e he => ?_
   have := hes e he
   rwa [(run_st1 (ty := 3) (x := .tmp 10) (y := .tmp 30) rfl h10 h30 (.inl rfl) (.inl ⟨_, rfl⟩) hc hz).2] at this
 · refine ⟨hw.k.setFar hbi _ _, fun x hx => ?_⟩
   simp only [List.mem_cons, List.not_mem_nil, or_false] at hx
   rcases hx with rfl | rfl
   · exact (heap_at w _ (i1 hw).1).trans rfl
   · exact (heap_set w _ _ _ (Ne.symm hne)).trans (i1 hw).2
 rw [show (ops6[5]'(by rw [ops6_size]; decide)).dst = none from rfl, putT_none]
 refine Reach.more (n := 118 + 1) (by omega) (Reach.st (K' := KP C L (boxes L j bi br)) W1 hb (o := ops6[6]'(by rw [ops6_size]; decide)) (fun w => (w.setCell ⟨br, 0, none⟩ (.int .i64 (L.xs j))).setCell ⟨br, 1, none⟩ (.int .i64 (L.ys j))) rfl rfl (fun w hw => ?_) (fun w hw es hes => ?_) (fun w hw => ?_) ?_)
 · have hh := heap_at (off := 0) w (.int .i64 (L.xs j)) (i1 hw).2
   exact (run_st30 (x := .tmp 11) (y := .tmp 32) rfl h11 h32 (u1 := .int .i64 0) (u2 := .int .i64 0) (by simp [World.cell?, (i1 hw).2]) (by simp [World.frozen?, (i1 hw).2]) (by simp [World.cell?, hh]) (by simp [World.frozen?, hh])).1
 · have hh := heap_at (off := 0) w (.int .i64 (L.xs j)) (i1 hw).2
   have hev := (run_st30 (w := w) (o := ops6[6]'(by rw [ops6_size]; decide)) (x := .tmp 11) (y := .tmp 32) rfl h11 h32 (u1 := .int .i64 0) (u2 := .int .i64 0) (by simp [World.cell?, (i1 hw).2]) (by simp [World.frozen?, (i1 hw).2]) (by simp [World.cell?, hh]) (by simp [World.frozen?, hh])).2
   have hlt : br < w.heap.size := (Array.getElem?_eq_some_iff.1 (i1 hw).2).1
   refine ⟨⟨rfl, rfl, rfl, by simp [World.setCell], fun c hc => ?_, fun b hb => cl_set (cl_set hb)⟩, fun e he => ?_⟩
   · have hcb : c ≠ br := fun x => hc (.inr x)
     exact (heap_set _ _ _ _ hcb).trans (heap_set _ _ _ _ hcb)
   · have := hes e he
     rw [hev] at this
     simp only [List.mem_toArray, List.mem_cons, List.not_mem_nil, or_false] at this
     rcases this with rfl | rfl
     · exact .inl ⟨_, _, rfl, by simpa [World.setCell] using hlt, .inl (.inr rfl)⟩
     · exact .inl ⟨_, _, rfl, by simpa [World.setCell] using hlt, .inl (.inr rfl)⟩
 · refine ⟨(hw.k.setFar hbr _ _).setFar hbr _ _, fun x hx => ?_⟩
   simp only [boxes, List.mem_cons, List.not_mem_nil, or_false] at hx
   rcases hx with rfl | rfl
   · exact ((heap_set _ _ _ _ hne).trans (heap_set w _ _ _ hne)).trans (i1 hw).1
   · exact (heap_at _ _ (heap_at w _ (i1 hw).2)).trans rfl
 rw [show (ops6[6]'(by rw [ops6_size]; decide)).dst = none from rfl, putT_none]
 have hsz := hT.size
 refine Reach.more (n := 101 + 3) (by omega) (Reach.runs (n := 101) W hb (offP_ok _) 3 ?_)
 simp only [evRun, evStep, List.range, List.range.loop, ops7_size]
 refine Reach.call W hb (o := ops7[0]'(by rw [ops7_size]; decide)) rfl rfl rfl Try.func52 (by kernel_rfl) (c := body52) rfl ?_
 refine addP A hk ⟨hbi.w, hbr.w⟩ (fun T52 l hl => toMSe Q hj ⟨hbi.f, hbr.f⟩ hb hT h28 h10 h11 hNx hl) (size_slots _ _ (by simp [Try.f52])) ?_ ?_
 · refine (evalT_slots _ _ _ (by simp)).trans ?_
   simp [hT.s9]
 · refine (evalT_slots _ _ _ (by simp)).trans ?_
   simp [evalT_const]
end
end
end Go.Proofs.Ytcoppnbjpncdcaa.Q
end
section
set_option linter.unusedVariables false
set_option linter.unusedSimpArgs false
namespace Go.Proofs.Ytcoppnbjpncdcaa.Q
open Go Go.Conc
open Go.ConcR (mk KK WgAt wgBlock stA smA rd wr)
theorem ops5_size : ops5.size = 1 := by kernel_rfl
section
variable {C : Cfg} {L : Plan}
theorem MT.put {T : Array Value} (h : MT C L T) {t : Nat} (ht : ∀ s ∈ [5, 7, 8, 9, 26, 27], s ≠ t) (ht2 : t < 63) (v : Value) : MT C L (putT T (some t) v) := by
 have e2 : ∀ s : Nat, s ∈ [5, 7, 8, 9, 26, 27] → evalT (putT T (some t) v) (.tmp s) = evalT T (.tmp s) := fun s hs => by rw [evalT_put _ _ _ _ (by rw [h.size]; exact ht2), if_neg (show ¬ (s : Nat) = t from ht s hs)]
 exact ⟨by rw [size_putT]; exact h.size, (e2 5 (by decide)).trans h.s5, (e2 7 (by decide)).trans h.s7, (e2 8 (by decide)).trans h.s8, (e2 9 (by decide)).trans h.s9, (e2 26 (by decide)).trans h.s26, (e2 27 (by decide)).trans h.s27⟩
theorem ev_ne {T : Array Value} {s t : Nat} {v : Value} (hsz : T.size = 63) (ht : t < 63) (h : s ≠ t) : evalT (putT T (some t) v) (.tmp s) = evalT T (.tmp s) := by rw [evalT_put _ _ _ _ (by rw [hsz]; exact ht), if_neg (show ¬ (s : Nat) = t from h)]
theorem ev_eq {T : Array Value} {t : Nat} {v : Value} (hsz : T.size = 63) (ht : t < 63) : evalT (putT T (some t) v) (.tmp t) = v := by rw [evalT_put _ _ _ _ (by rw [hsz]; exact ht), if_pos rfl]
theorem way0M : Way Try.prog (Rm C L.kr none0) (Dm C L.kr none0) (KP C L []) := wayM (by simp)
section
variable {vals : Nat → Value × Value × Value} {j : Nat} {b : Frame} {cs : List Frame} {Nx : Goroutine → World → Prop} {T : Array Value}
set_option maxHeartbeats 2000000 in
set_option maxRecDepth 100000 in
theorem toMA1 (Q : GeoM C L vals) (hsl : ∃ c, L.sl = .slice (some ⟨L.V, L.voff, none⟩) C.n c) (A : C.Apart) (hk : ∀ b, L.kr b → b ≠ C.Wg) (hj : j < C.n) (hb : b.kind ≠ .early)
   (hT : MT C L T) (h28 : evalT T (.tmp 28) = .int .i64 j)
   (hNx : ∀ T' ops, MT C L T' → evalT T' (.tmp 28) = .int .i64 j → ∀ w, KM C L w → Nx (G (b.at ⟨T', []⟩ (.inRegion ops [] :: .inBlock 1 :: .code m9 :: tlLoop)) cs) w) :
   Reach Try.prog true (Rm C L.kr none0) (Dm C L.kr none0) (KP C L []) (MA1 C Try.prog vals L.kr L.k0 j Nx) b cs [] 60 T (.code lp38 :: tlLoop) := by
 have W := way0M (C := C) (L := L)
 obtain ⟨cap, hsl⟩ := hsl
 rw [e38]
 have hsz := hT.size
 refine Reach.more (n := 58 + 2) (by omega) (Reach.runs (n := 58) W hb (offP_ok _) 2 ?_)
 simp only [evRun, evStep, List.range, List.range.loop, ops5_size]
 refine Reach.more (n := 57 + 1) (by omega) (Reach.op W hb (offP_ok _) (o := ops5[0]'(by rw [ops5_size]; decide)) (v := .bool true) rfl rfl ?_ ?_)
 · rw [show (ops5[0]'(by rw [ops5_size]; decide)).op = .binOp .lss 3 (.tmp 28) (.tmp 27) 3 from rfl]
   simp [evPure, h28, hT.s27, intBin, hj]
 rw [show (ops5[0]'(by rw [ops5_size]; decide)).dst = some 29 from rfl]
 have h1 := hT.put (t := 29) (by decide) (by decide) (.bool true)
 have g29 : evalT (putT T (some 29) (.bool true)) (.tmp 29) = .bool true := ev_eq hsz (by decide)
 have g28 := (ev_ne (v := .bool true) (s := 28) (t := 29) hsz (by decide) (by decide)).trans h28
 refine Reach.more (n := 49 + 8) (by omega) (Reach.runs (n := 49) W hb (offP_ok _) 8 ?_)
 simp only [evRun, evStep, g29, ops6_size, List.range, List.range.loop]
 generalize putT T (some 29) (.bool true) = T1 at h1 g29 g28 ⊢
 have z1 := h1.size
 refine Reach.more (n := 48 + 1) (by omega) (Reach.op W hb (offP_ok _) (o := ops6[0]'(by rw [ops6_size]; decide)) (v := .int .i64 j) rfl rfl (by rw [show (ops6[0]'(by rw [ops6_size]; decide)).op = .move (.tmp 28) from rfl]; simp [evPure, g28]) ?_)
 rw [show (ops6[0]'(by rw [ops6_size]; decide)).dst = some 30 from rfl]
 have h2 := h1.put (t := 30) (by decide) (by decide) (.int .i64 j)
 have k30 : evalT (putT T1 (some 30) (.int .i64 j)) (.tmp 30) = .int .i64 j := ev_eq z1 (by decide)
 have k28 := (ev_ne (v := .int .i64 j) (s := 28) (t := 30) z1 (by decide) (by decide)).trans g28
 generalize putT T1 (some 30) (.int .i64 j) = T2 at h2 k30 k28 ⊢
 have z2 := h2.size
 refine Reach.more (n := 47 + 1) (by omega) (Reach.opq W hb (o := ops6[1]'(by rw [ops6_size]; decide)) (.pointer (some ⟨L.V, L.voff + 2 * j, none⟩)) rfl rfl (fun w hw => run_ixV (x := .tmp 26) (y := .tmp 28) rfl (h2.s26.trans hsl) k28 hj) ?_)
 rw [show (ops6[1]'(by rw [ops6_size]; decide)).dst = some 31 from rfl]
 have h3 := h2.put (t := 31) (by decide) (by decide) (.pointer (some ⟨L.V, L.voff + 2 * j, none⟩))
 have l31 : evalT (putT T2 (some 31) (.pointer (some ⟨L.V, L.voff + 2 * j, none⟩))) (.tmp 31) = .pointer (some ⟨L.V, L.voff + 2 * j, none⟩) := ev_eq z2 (by decide)
 have l28 := (ev_ne (v := .pointer (some ⟨L.V, L.voff + 2 * j, none⟩)) (s := 28) (t := 31) z2 (by decide) (by decide)).trans k28
 have l30 := (ev_ne (v := .pointer (some ⟨L.V, L.voff + 2 * j, none⟩)) (s := 30) (t := 31) z2 (by decide) (by decide)).trans k30
 generalize putT T2 (some 31) (.pointer (some ⟨L.V, L.voff + 2 * j, none⟩)) = T3 at h3 l31 l28 l30 ⊢
 have z3 := h3.size
 refine Reach.more (n := 46 + 1) (by omega) (Reach.opv W hb (o := ops6[2]'(by rw [ops6_size]; decide)) (.agg #[.int .i64 (L.xs j), .int .i64 (L.ys j)]) rfl rfl (fun w hw => (run_ld30 (x := .tmp 31) rfl l31 (hw.k.ex j hj) (hw.k.ey j hj)).1) (fun w hw e he => ?_) dm_all ?_)
 · rw [(run_ld30 (x := .tmp 31) rfl l31 (hw.k.ex j hj) (hw.k.ey j hj)).2] at he
   simp only [List.mem_toArray, List.mem_cons, List.not_mem_nil, or_false] at he
   rcases he with rfl | rfl
   · exact dm_read (.inl rfl) (hw.k.ex j hj)
   · exact dm_read (.inl rfl) (hw.k.ey j hj)
 rw [show (ops6[2]'(by rw [ops6_size]; decide)).dst = some 32 from rfl]
 have h4 := h3.put (t := 32) (by decide) (by decide) (.agg #[.int .i64 (L.xs j), .int .i64 (L.ys j)])
 have m32 : evalT (putT T3 (some 32) (.agg #[.int .i64 (L.xs j), .int .i64 (L.ys j)])) (.tmp 32) = .agg #[.int .i64 (L.xs j), .int .i64 (L.ys j)] := ev_eq z3 (by decide)
 have m28 := (ev_ne (v := .agg #[.int .i64 (L.xs j), .int .i64 (L.ys j)]) (s := 28) (t := 32) z3 (by decide) (by decide)).trans l28
 have m30 := (ev_ne (v := .agg #[.int .i64 (L.xs j), .int .i64 (L.ys j)]) (s := 30) (t := 32) z3 (by decide) (by decide)).trans l30
 generalize putT T3 (some 32) (.agg #[.int .i64 (L.xs j), .int .i64 (L.ys j)]) = T4 at h4 m32 m28 m30 ⊢
 have z4 := h4.size
 intro w hw
 refine Goes.stop fun w₁ h₁ => ?_
 have hw₁ := W.rely w w₁ hw h₁
 have hbi := hw₁.k.far hj (Nat.le_refl _)
 have hr := run_alloc3 (w := w₁) (ρ := evalT T4) (o := ops6[3]'(by rw [ops6_size]; decide)) rfl
 have hst := stepG_value (P := Try.prog) (main := true) (b := b) (a := ⟨T4, []⟩) (k := .code (.seq (.region 7 ops7 false) m8) :: .inBlock 1 :: .code m9 :: tlLoop) (cs := cs) (w := w₁) (ops := ops6) (i := 3) (rest := [4, 5, 6]) rfl (wantedA rfl) hb (by rw [evalA]; exact hr.1)
 have hls : listed Try.prog b.fn (Act.mk T4 []) (ops6[3]'(by rw [ops6_size]; decide)) w₁ = #[] := by unfold listed; rw [evalA, hr.2]; exact seen_none Try.prog _
 rw [show listed Try.prog b.fn (Act.mk T4 []) _ w₁ = #[] from hls, putA, show (ops6[3]'(by rw [ops6_size]; decide)).dst = some 10 from rfl] at hst
 refine ⟨rfl, _, 20, .cells #[.int .i64 0] 3, ⟨_, _, rfl⟩, hst, ?_⟩
 have hk1 : KP C L [(w₁.heap.size, .cells #[.int .i64 0] 3)] { w₁ with heap := w₁.heap.push (.cells #[.int .i64 0] 3) } := ⟨hw₁.k.push _, fun x hx => by rw [List.mem_singleton] at hx; subst hx; simp⟩
 generalize w₁.heap.size = bi at hbi hk1 ⊢
 have W1 : Way Try.prog (Rm C L.kr (pv bi bi)) (Dm C L.kr (pv bi bi)) (KP C L [(bi, .cells #[.int .i64 0] 3)]) := wayM (by intro x hx; rw [List.mem_singleton] at hx; subst hx; exact .inl rfl)
 have h5 := h4.put (t := 10) (by decide) (by decide) (.pointer (some ⟨bi, 0, none⟩))
 have n10 : evalT (putT T4 (some 10) (.pointer (some ⟨bi, 0, none⟩))) (.tmp 10) = .pointer (some ⟨bi, 0, none⟩) := ev_eq z4 (by decide)
 have n28 := (ev_ne (v := .pointer (some ⟨bi, 0, none⟩)) (s := 28) (t := 10) z4 (by decide) (by decide)).trans m28
 have n30 := (ev_ne (v := .pointer (some ⟨bi, 0, none⟩)) (s := 30) (t := 10) z4 (by decide) (by decide)).trans m30
 have n32 := (ev_ne (v := .pointer (some ⟨bi, 0, none⟩)) (s := 32) (t := 10) z4 (by decide) (by decide)).trans m32
 generalize putT T4 (some 10) (.pointer (some ⟨bi, 0, none⟩)) = T5 at h5 n10 n28 n30 n32 ⊢
 have z5 := h5.size
 refine Goes.stop fun w₂ h₂ => ?_
 have hw₂ := W1.rely _ w₂ hk1 h₂
 have hbr := hw₂.k.far hj (Nat.le_refl _)
 have hbib : w₂.heap[bi]? = some (.cells #[.int .i64 0] 3) := hw₂.b _ (List.mem_singleton.2 rfl)
 have hlt : bi < w₂.heap.size := (Array.getElem?_eq_some_iff.1 hbib).1
 have hr2 := run_alloc30 (w := w₂) (ρ := evalT T5) (o := ops6[4]'(by rw [ops6_size]; decide)) rfl
 have hst2 := stepG_value (P := Try.prog) (main := true) (b := b) (a := ⟨T5, []⟩) (k := .code (.seq (.region 7 ops7 false) m8) :: .inBlock 1 :: .code m9 :: tlLoop) (cs := cs) (w := w₂) (ops := ops6) (i := 4) (rest := [5, 6]) rfl (wantedA rfl) hb (by rw [evalA]; exact hr2.1)
 have hls2 : listed Try.prog b.fn (Act.mk T5 []) (ops6[4]'(by rw [ops6_size]; decide)) w₂ = #[] := by unfold listed; rw [evalA, hr2.2]; exact seen_none Try.prog _
 rw [show listed Try.prog b.fn (Act.mk T5 []) _ w₂ = #[] from hls2, putA, show (ops6[4]'(by rw [ops6_size]; decide)).dst = some 11 from rfl] at hst2
 refine ⟨rfl, _, 120, .cells #[.int .i64 0, .int .i64 0] 30, ⟨_, _, rfl⟩, hst2, ?_⟩
 have hk2 : KP C L [(bi, .cells #[.int .i64 0] 3), (w₂.heap.size, .cells #[.int .i64 0, .int .i64 0] 30)] { w₂ with heap := w₂.heap.push (.cells #[.int .i64 0, .int .i64 0] 30) } := by
   refine ⟨hw₂.k.push _, fun x hx => ?_⟩
   simp only [List.mem_cons, List.not_mem_nil, or_false] at hx
   rcases hx with rfl | rfl
   · exact (push_old w₂ _ hlt).trans hbib
   · simp
 have hne : bi ≠ w₂.heap.size := by omega
 generalize w₂.heap.size = br at hbr hk2 hne ⊢
 have h6 := h5.put (t := 11) (by decide) (by decide) (.pointer (some ⟨br, 0, none⟩))
 have o11 : evalT (putT T5 (some 11) (.pointer (some ⟨br, 0, none⟩))) (.tmp 11) = .pointer (some ⟨br, 0, none⟩) := ev_eq z5 (by decide)
 have o10 := (ev_ne (v := .pointer (some ⟨br, 0, none⟩)) (s := 10) (t := 11) z5 (by decide) (by decide)).trans n10
 have o28 := (ev_ne (v := .pointer (some ⟨br, 0, none⟩)) (s := 28) (t := 11) z5 (by decide) (by decide)).trans n28
 have o30 := (ev_ne (v := .pointer (some ⟨br, 0, none⟩)) (s := 30) (t := 11) z5 (by decide) (by decide)).trans n30
 have o32 := (ev_ne (v := .pointer (some ⟨br, 0, none⟩)) (s := 32) (t := 11) z5 (by decide) (by decide)).trans n32
 exact toMSk Q A hk hj hbi hbr hne hb h6 o28 o30 o32 o10 o11 hNx _ hk2
end
end
end Go.Proofs.Ytcoppnbjpncdcaa.Q
end
section
set_option linter.unusedVariables false
set_option linter.unusedSimpArgs false
namespace Go.Proofs.Ytcoppnbjpncdcaa.Q
open Go Go.Conc
open Go.ConcR (mk KK WgAt wgBlock stA smA rd wr)
noncomputable def body56 : Code := Try.f56.body.getD .skip
noncomputable def lp56 : Code := inLp (snd body56)
noncomputable def in56 : Code := inBl lp56
noncomputable def x56 : Code := fst (snd (snd (snd in56)))
noncomputable def y56 : Code := snd (snd (snd (snd in56)))
noncomputable def z56 : Code := thn (snd x56)
noncomputable def tl56 : List Item := [.inBlock 1, .inLoop lp56, .inBlock 0]
noncomputable def kA : List Item := .inRegion (opsOf (snd (thn (fst z56)))) [] :: .code (snd z56) :: .code y56 :: tl56
noncomputable def h56 : Code := thn (snd y56)
noncomputable def h19 : Code := snd (snd (snd h56))
noncomputable def kB : List Item := .inRegion (opsOf (snd (thn (fst (snd (snd h19)))))) [] :: .code (snd (snd (snd h19))) :: tl56
noncomputable def ops10 : Array Oper := opsOf (fst rest38)
noncomputable def tl38 : List Item := [.code (snd rest38)]
section
variable (C : Cfg) (L : Plan) (b : Frame) (cs : List Frame)
noncomputable def below (T : Array Value) : List Frame := b.at ⟨T, []⟩ (.inRegion ops10 [0] :: tl38) :: cs
def AnchM (g : Goroutine) (w : World) : Prop :=
 ∃ T38 T, MT C L T38 ∧ T.size = 84 ∧ evalT T (.tmp 0) = .pointer (some (stA C.Wg)) ∧ KM C L w ∧ g = G ((base 56).at ⟨T, []⟩ (.code lp56 :: .inLoop lp56 :: [.inBlock 0])) (below b cs T38)
def FinM (g : Goroutine) (w : World) : Prop :=
 ∃ T38 T l, MT C L T38 ∧ T.size = 84 ∧ KM C L w ∧ g = G ((base 56).at ⟨T, []⟩ l) (below b cs T38) ∧
   ((l = kA ∧ evalT T (.tmp 2) = .int .u64 0 ∧ evalT T (.tmp 4) = .int .u32 0) ∨ (l = kB ∧ evalT T (.tmp 6) = .bool false))
end
section
variable {C : Cfg} {L : Plan} {b : Frame} {cs : List Frame} {T38 : Array Value}
abbrev RM (C : Cfg) (L : Plan) (Stop : Goroutine → World → Prop) (cs' : List Frame) (n : Nat) (T : Array Value) (k : List Item) : Prop := Reach Try.prog true (Rm C L.kr none0) (Dm C L.kr none0) (KP C L []) Stop (base 56) cs' [] n T k
set_option maxHeartbeats 4000000 in
set_option maxRecDepth 100000 in
theorem endB (hT38 : MT C L T38) {T : Array Value} (hsz : T.size = 84) (h0 : evalT T (.tmp 0) = .pointer (some (stA C.Wg))) (h76 : evalT T (.tmp 76) = .int .u64 0) :
   RM C L (MKe C Try.prog L.kr (FinM C L b cs)) (below b cs T38) 60 T (.inRegion (opsOf (fst (snd h19))) [4, 5] :: .code (snd (snd h19)) :: tl56) := by
 have W := way0M (C := C) (L := L)
 have hk : kB = .inRegion (opsOf (snd (thn (fst (snd (snd h19)))))) [] :: .code (snd (snd (snd h19))) :: tl56 := rfl
 simp only [h19, h56, y56, in56, lp56, body56, Try.f56, Option.getD_some, snd, fst, inLp, inBl, opsOf, thn] at hk ⊢
 refine Reach.more (n := 40 + 20) (by omega) (Reach.runs (n := 40) W (by simp [base]) (offP_ok _) 20 ?_)
 simp only [evRun, evStep, zqa, Nat.zero_add, List.range, List.range.loop, zqb, Region.wanted, ↓reduceIte, evPure, evalT_put, evalT_const, hsz, Nat.reduceLT, reduceCtorEq, intBin, h76, bne_self_eq_false]
 intro w hw
 refine Goes.stop fun w₁ h₁ => ?_
 have hw₁ := W.rely w w₁ hw h₁
 refine ⟨rfl, _, 40, stepG_mark0 .enable (by simp) rfl (wantedA rfl) (by simp [base]) rfl Try.func70 x70_n x70_b x70_x x70_f, ?_⟩
 rw [putA]
 refine (?_ : RM C L (MAcq C Try.prog (FinM C L b cs)) (below b cs T38) 40 _ _) _ hw₁
 refine Reach.more (n := 20 + 20) (by omega) (Reach.runs (n := 20) W (by simp [base]) (offP_ok _) 20 ?_)
 simp only [evRun, evStep, zqa, Nat.reduceAdd, Nat.zero_add, List.range, List.range.loop, zqb, List.getElem_toArray, List.getElem_cons_zero, Region.wanted, ↓reduceIte, evPure, evalT_put, size_putT, hsz, Nat.reduceLT, reduceCtorEq, h0]
 refine Reach.more (n := 19 + 1) (by omega) (Reach.opq W (by simp [base]) (.pointer (some (stA C.Wg))) rfl rfl (fun w hw => let ⟨_, _, hg⟩ := hw.k.live.wg; run_unsafe96 rfl (by simp only [↓reduceIte, evalT_put, size_putT, hsz, Nat.reduceLT]) hg) ?_)
 clear hw₁ h₁ hw
 intro w hw
 refine Goes.stop fun w₁ h₁ => ?_
 have hw₁ := W.rely w w₁ hw h₁
 refine ⟨rfl, _, stepG_markAt .acquire (by simp) rfl (wantedA rfl) (by simp [base]) rfl Try.func83 x83_n x83_b x83_x x83_f (ad := stA C.Wg) (by rw [evalA]; simp [evalT_put, size_putT, hsz]), ?_⟩
 rw [putA]
 refine ⟨T38, _, _, hT38, ?_, hw₁.k, rfl, .inr ⟨hk.symm, ?_⟩⟩
 · simp only [size_putT, hsz]
 · simp only [zqc, ↓reduceIte, evalT_put, size_putT, hsz, Nat.reduceLT, Nat.reduceEqDiff]
end
end Go.Proofs.Ytcoppnbjpncdcaa.Q
end
section
set_option linter.unusedVariables false
set_option linter.unusedSimpArgs false
namespace Go.Proofs.Ytcoppnbjpncdcaa.Q
open Go Go.Conc
open Go.ConcR (mk KK WgAt wgBlock stA smA rd wr)
section
variable {C : Cfg} {L : Plan} {b : Frame} {cs : List Frame} {T38 : Array Value}
theorem KM.setSm {w : World} (h : KM C L w) (A : C.Apart) (hk : ∀ b, L.kr b → b ≠ C.Wg) {st sm : Int} (hW : WgAt C.tW C.Wg w st sm) (sm' : Int) : KM C L (w.setCell (smA C.Wg) (.int .u32 sm')) := by
 refine h.other ?_ fun b hb _ => heap_set w _ _ _ (hk b hb)
 obtain ⟨⟨m, ms, hm⟩, _, ⟨cs, hg, hgs⟩, ⟨ds, hh, hhs⟩⟩ := h.live
 exact ⟨⟨m, ms, (heap_set w _ _ _ A.fw).trans hm⟩, ⟨st, sm', hW.setSm sm'⟩, ⟨cs, (heap_set w _ _ _ A.gw).trans hg, hgs⟩, ⟨ds, (heap_set w _ _ _ A.hw).trans hh, hhs⟩⟩
set_option maxHeartbeats 4000000 in
set_option maxRecDepth 100000 in
theorem fromCas (A : C.Apart) (hk : ∀ b, L.kr b → b ≠ C.Wg) (hT38 : MT C L T38) {T : Array Value} {v : Nat} (hv : v < 17) (hsz : T.size = 84) (h0 : evalT T (.tmp 0) = .pointer (some (stA C.Wg))) (h2 : evalT T (.tmp 2) = .int .u64 (sW v 0)) (h4 : evalT T (.tmp 4) = .int .u32 0) (h48 : evalT T (.tmp 48) = .bool true) :
   RM C L (MW3 C Try.prog L.kr (FinM C L b cs)) (below b cs T38) 300 T (.inRegion (opsOf (fst y56)) [] :: .code (snd y56) :: tl56) := by
 have W := way0M (C := C) (L := L)
 have qt := w_top (v := v) (wt := 0) hv (by omega)
 have hB : ∀ {T : Array Value}, T.size = 84 → evalT T (.tmp 0) = .pointer (some (stA C.Wg)) → evalT T (.tmp 76) = .int .u64 0 → RM C L (MKe C Try.prog L.kr (FinM C L b cs)) (below b cs T38) 60 T (.inRegion (opsOf (fst (snd h19))) [4, 5] :: .code (snd (snd h19)) :: tl56) := fun h1 h2 h3 => endB hT38 h1 h2 h3
 simp only [tl56, h19, h56, y56, in56, lp56, body56, Try.f56, Option.getD_some, snd, fst, inLp, inBl, opsOf, thn] at hB ⊢
 refine Reach.more (n := 270 + 30) (by omega) (Reach.runs (n := 270) W (by simp [base]) (offP_ok _) 30 ?_)
 simp only [evRun, evStep, zqa, Nat.reduceAdd, Nat.zero_add, List.range, List.range.loop, zqb, Region.wanted, ↓reduceIte, evPure, evalT_put, evalT_const, size_putT, hsz, Nat.reduceLT, Nat.reduceEqDiff, Option.bind_some, reduceCtorEq, intBin, yieldedT, beq_self_eq_true, h0, h4, h48, off82_2, stA_add1]
 refine Reach.more (n := 269 + 1) (by omega) (Reach.opq W (by simp [base]) (.pointer (some (smA C.Wg))) rfl rfl (fun w hw => let ⟨_, _, hg⟩ := hw.k.live.wg; run_unsafe105 rfl (by simp only [↓reduceIte, evalT_put, size_putT, hsz, Nat.reduceLT]) hg) ?_)
 refine Reach.more (n := 268 + 1) (by omega) (Reach.marked (Wg := C.Wg) (mm := .write) W (by simp [base]) rfl rfl (by simp) rfl Try.func86 x86_n x86_b x86_x x86_f (by simp [evalT_put, size_putT, hsz]) (fun w => ⟨Mn.refl _ w, fun e he => by rw [Array.mem_singleton] at he; subst he; exact .inr (.inr rfl)⟩) ?_)
 refine Reach.more (n := 190 + 78) (by omega) (Reach.runs (n := 190) W (by simp [base]) (offP_ok _) 78 ?_)
 simp only [evRun, evStep, zqa, Nat.reduceAdd, Nat.zero_add, List.range, List.range.loop, zqb, zqc, Region.wanted, ↓reduceIte, evPure, evalT_put, evalT_const, size_putT, hsz, Nat.reduceLT, Nat.reduceEqDiff, Option.bind_some, reduceCtorEq, intBin, yieldedT, some_ft, Bool.false_eq_true, h0, h2, off82_2, stA_add1, qt]
 intro w hw
 refine Goes.stop fun w₁ h₁ => ?_
 have hw₁ := W.rely w w₁ hw h₁
 refine ⟨rfl, rfl, fun ⟨st, hg⟩ => stepG_semacquire_wait (ad := smA C.Wg) rfl (wantedA rfl) rfl Try.func87 x87_n x87_b x87_x x87_f (by rw [evalA]; simp [evalT_put, size_putT, hsz]) hg.cellSm, fun hg => ?_⟩
 refine ⟨_, 100, stepG_semacquire (ad := smA C.Wg) (n := 1) rfl (wantedA rfl) (by simp [base]) rfl Try.func87 x87_n x87_b x87_x x87_f (by rw [evalA]; simp [evalT_put, size_putT, hsz]) hg.cellSm (by decide) (hg.thaw 1), ?_⟩
 rw [putA]
 have hk' : KP C L [] (w₁.setCell (smA C.Wg) (.int .u32 0)) := ⟨hw₁.k.setSm A hk hg 0, by simp⟩
 refine (?_ : RM C L (MW4 C Try.prog L.kr (FinM C L b cs)) (below b cs T38) 100 _ _) _ hk'
 refine Reach.more (n := 80 + 20) (by omega) (Reach.runs (n := 80) W (by simp [base]) (offP_ok _) 20 ?_)
 simp only [evRun, evStep, zqa, Nat.reduceAdd, Nat.zero_add, List.range, List.range.loop, zqb, zqc, Region.wanted, ↓reduceIte, evPure, evalT_put, size_putT, hsz, Nat.reduceLT, reduceCtorEq, h0, off82_1, stA_add0]
 refine Reach.more (n := 40 + 1) (by omega) (Reach.call W (by simp [base]) rfl rfl rfl Try.func77 (by kernel_rfl) (c := Try.f77.body.getD .skip) rfl ?_)
 refine at77 (Wg := C.Wg) W (size_slots _ _ (by simp [Try.f77])) ((evalT_slots _ _ _ (by simp)).trans (by simp [evalT_put, size_putT, hsz])) (fun T' hs5 g5 => ?_)
 clear hw₁ h₁ hw hg hk'
 intro w hw
 refine Goes.stop fun w₁ h₁ => ?_
 have hw₁ := W.rely w w₁ hw h₁
 refine ⟨rfl, fun hg => ?_⟩
 refine ⟨_, 80, stepG_load_atomic (ops := ops77) (i := 3) (rest := [4]) rfl (wantedA rfl) (by simp [base]) rfl Try.func96 x96_n x96_b x96_x .u64 x96_f (by rw [evalA]; exact g5) hg.cellSt, ?_⟩
 rw [putA]
 refine (?_ : Reach Try.prog true (Rm C L.kr none0) (Dm C L.kr none0) (KP C L []) (MKe C Try.prog L.kr (FinM C L b cs)) (base 77) _ [] 80 _ [.inRegion ops77 [4], .code .ret]) _ hw₁
 refine Reach.more (n := 60 + 10) (by omega) (end77 W (v := .int .u64 0) (by rw [size_putT]; exact hs5) ((evalT_put _ _ _ _ (by rw [hs5]; decide)).trans (if_pos rfl)) ?_)
 refine hB ?_ ?_ ?_
 all_goals simp only [zqb, ↓reduceIte, evalT_put, size_putT, hsz, Nat.reduceLT, Option.bind_some, reduceCtorEq, h0]
end
end Go.Proofs.Ytcoppnbjpncdcaa.Q
end
section
set_option linter.unusedVariables false
set_option linter.unusedSimpArgs false
namespace Go.Proofs.Ytcoppnbjpncdcaa.Q
open Go Go.Conc
open Go.ConcR (mk KK WgAt wgBlock stA smA rd wr)
theorem w_one {v : Nat} (hv : v < 17) : IntKind.u64.wrap (sW v 0 + 1) = sW v 1 := by
 have := all_vw (p := fun v wt => wt != 0 || IntKind.u64.wrap (sW v 0 + 1) == sW v 1) (by kernel_rfl) (v := v) (wt := 0) hv (by omega)
 simpa using this
section
variable {C : Cfg} {L : Plan} {b : Frame} {cs : List Frame} {T38 : Array Value}
abbrev w1Stop (C : Cfg) (L : Plan) (b : Frame) (cs : List Frame) := MW1 C Try.prog L.kr (AnchM C L b cs) (FinM C L b cs)
set_option maxHeartbeats 8000000 in
set_option maxRecDepth 100000 in
theorem ldZero (hT38 : MT C L T38) {T : Array Value} (hsz : T.size = 84) (h0 : evalT T (.tmp 0) = .pointer (some (stA C.Wg))) (h11 : evalT T (.tmp 11) = .int .u64 (sW 0 0)) :
   RM C L (MKe C Try.prog L.kr (FinM C L b cs)) (below b cs T38) 200 T (.inRegion (opsOf (fst in56)) [4] :: .code (snd in56) :: tl56) := by
 have W := way0M (C := C) (L := L)
 have qfv := w_v (v := 0) (wt := 0) (by omega) (by omega)
 have qfw := w_w (v := 0) (wt := 0) (by omega) (by omega)
 have qz : (((0 : Nat) : Int) == 0) = true := rfl
 have hk : kA = .inRegion (opsOf (snd (thn (fst z56)))) [] :: .code (snd z56) :: .code y56 :: tl56 := rfl
 simp only [tl56, z56, x56, y56, in56, lp56, body56, Try.f56, Option.getD_some, snd, fst, inLp, inBl, opsOf, thn] at hk ⊢
 refine Reach.more (n := 180 + 20) (by omega) (Reach.runs (n := 180) W (by simp [base]) (offP_ok _) 20 ?_)
 simp only [evRun, evStep, zqa, Nat.reduceAdd, Nat.zero_add, List.range, List.range.loop, zqb, Region.wanted, ↓reduceIte, evPure, evalT_put, evalT_const, size_putT, hsz, Nat.reduceLT, h11, Int.reduceLT, b_shr32]
 refine Reach.more (n := 179 + 1) (by omega) (Reach.opq W (by simp [base]) (.int .i32 (IntKind.i32.wrap ((sW 0 0).fdiv 4294967296))) rfl rfl (fun w hw => run_cv (k := .u64) .i32 rfl (by simp only [↓reduceIte, evalT_put, size_putT, hsz, Nat.reduceLT]) (.inr (.inl ⟨rfl, rfl, rfl⟩))) ?_)
 refine Reach.more (n := 160 + 19) (by omega) (Reach.runs (n := 160) W (by simp [base]) (offP_ok _) 19 ?_)
 simp only [evRun, evStep, zqa, Nat.reduceAdd, Nat.zero_add, List.range, List.range.loop, zqb, zqc, Region.wanted, ↓reduceIte, evPure, evalT_put, evalT_const, size_putT, hsz, Nat.reduceLT, Nat.reduceEqDiff, reduceCtorEq, intBin, qfv]
 refine Reach.more (n := 159 + 1) (by omega) (Reach.opq W (by simp [base]) (.int .u32 (IntKind.u32.wrap (bits .and .u64 (sW 0 0) 2147483647))) rfl rfl (fun w hw => run_cv (k := .u64) .u32 rfl (by simp only [↓reduceIte, evalT_put, size_putT, hsz, Nat.reduceLT]) (.inr (.inr (.inl ⟨rfl, rfl, rfl⟩)))) ?_)
 refine Reach.more (n := 130 + 29) (by omega) (Reach.runs (n := 130) W (by simp [base]) (offP_ok _) 29 ?_)
 simp only [evRun, evStep, zqa, Nat.reduceAdd, Nat.zero_add, List.range, List.range.loop, zqb, zqc, Region.wanted, ↓reduceIte, evPure, evalT_put, evalT_const, size_putT, hsz, Nat.reduceLT, Nat.reduceEqDiff, reduceCtorEq, intBin, qfw, qz]
 intro w hw
 refine Goes.stop fun w₁ h₁ => ?_
 have hw₁ := W.rely w w₁ hw h₁
 refine ⟨rfl, _, 40, stepG_mark0 .enable (by simp) rfl (wantedA rfl) (by simp [base]) rfl Try.func70 x70_n x70_b x70_x x70_f, ?_⟩
 rw [putA]
 refine (?_ : RM C L (MAcq C Try.prog (FinM C L b cs)) (below b cs T38) 40 _ _) _ hw₁
 refine Reach.more (n := 20 + 20) (by omega) (Reach.runs (n := 20) W (by simp [base]) (offP_ok _) 20 ?_)
 simp only [evRun, evStep, zqa, Nat.reduceAdd, Nat.zero_add, List.range, List.range.loop, zqb, List.getElem_toArray, List.getElem_cons_zero, Region.wanted, ↓reduceIte, evPure, evalT_put, size_putT, hsz, Nat.reduceLT, reduceCtorEq, h0]
 refine Reach.more (n := 19 + 1) (by omega) (Reach.opq W (by simp [base]) (.pointer (some (stA C.Wg))) rfl rfl (fun w hw => let ⟨_, _, hg⟩ := hw.k.live.wg; run_unsafe96 rfl (by simp only [↓reduceIte, evalT_put, size_putT, hsz, Nat.reduceLT]) hg) ?_)
 clear hw₁ h₁ hw
 intro w hw
 refine Goes.stop fun w₁ h₁ => ?_
 have hw₁ := W.rely w w₁ hw h₁
 refine ⟨rfl, _, stepG_markAt .acquire (by simp) rfl (wantedA rfl) (by simp [base]) rfl Try.func83 x83_n x83_b x83_x x83_f (ad := stA C.Wg) (by rw [evalA]; simp [evalT_put, size_putT, hsz]), ?_⟩
 rw [putA]
 refine ⟨T38, _, _, hT38, ?_, hw₁.k, rfl, .inl ⟨hk.symm, ?_, ?_⟩⟩
 · simp only [size_putT, hsz]
 · simp only [zqc, ↓reduceIte, evalT_put, size_putT, hsz, Nat.reduceLT, Nat.reduceEqDiff]; rfl
 · simp only [zqc, ↓reduceIte, evalT_put, size_putT, hsz, Nat.reduceLT, Nat.reduceEqDiff]; rfl
set_option maxHeartbeats 8000000 in
set_option maxRecDepth 100000 in
theorem ldMore (A : C.Apart) (hk : ∀ b, L.kr b → b ≠ C.Wg) (hT38 : MT C L T38) {v : Nat} (hv : v < 16) (hv0 : v ≠ 0) {T : Array Value} (hsz : T.size = 84) (h0 : evalT T (.tmp 0) = .pointer (some (stA C.Wg))) (h11 : evalT T (.tmp 11) = .int .u64 (sW v 0)) :
   RM C L (MW2 C Try.prog L.kr (AnchM C L b cs) (FinM C L b cs) v) (below b cs T38) 200 T (.inRegion (opsOf (fst in56)) [4] :: .code (snd in56) :: tl56) := by
 have W := way0M (C := C) (L := L)
 have qfv := w_v (v := v) (wt := 0) (by omega) (by omega)
 have qfw := w_w (v := v) (wt := 0) (by omega) (by omega)
 have qz : ((v : Int) == 0) = false := by rw [beq_eq_false_iff_ne]; omega
 have q1 := w_one (v := v) (by omega)
 have hC : ∀ {T : Array Value}, T.size = 84 → evalT T (.tmp 0) = .pointer (some (stA C.Wg)) → evalT T (.tmp 2) = .int .u64 (sW v 0) → evalT T (.tmp 4) = .int .u32 0 → evalT T (.tmp 48) = .bool true → RM C L (MW3 C Try.prog L.kr (FinM C L b cs)) (below b cs T38) 300 T (.inRegion (opsOf (fst y56)) [] :: .code (snd y56) :: tl56) := fun a b c d e => fromCas A hk hT38 (by omega) a b c d e
 have hA : ∀ T, T.size = 84 → evalT T (.tmp 0) = .pointer (some (stA C.Wg)) → RM C L (AnchM C L b cs) (below b cs T38) 0 T (.code lp56 :: .inLoop lp56 :: [.inBlock 0]) := fun T z e w hw w₁ h₁ => ⟨T38, T, hT38, z, e, (W.rely w w₁ hw h₁).k, rfl⟩
 simp only [tl56, y56, in56, lp56, body56, Try.f56, Option.getD_some, snd, fst, inLp, inBl, opsOf] at hC hA ⊢
 refine Reach.more (n := 180 + 20) (by omega) (Reach.runs (n := 180) W (by simp [base]) (offP_ok _) 20 ?_)
 simp only [evRun, evStep, zqa, Nat.reduceAdd, Nat.zero_add, List.range, List.range.loop, zqb, Region.wanted, ↓reduceIte, evPure, evalT_put, evalT_const, size_putT, hsz, Nat.reduceLT, h11, Int.reduceLT, b_shr32]
 refine Reach.more (n := 179 + 1) (by omega) (Reach.opq W (by simp [base]) (.int .i32 (IntKind.i32.wrap ((sW v 0).fdiv 4294967296))) rfl rfl (fun w hw => run_cv (k := .u64) .i32 rfl (by simp only [↓reduceIte, evalT_put, size_putT, hsz, Nat.reduceLT]) (.inr (.inl ⟨rfl, rfl, rfl⟩))) ?_)
 refine Reach.more (n := 160 + 19) (by omega) (Reach.runs (n := 160) W (by simp [base]) (offP_ok _) 19 ?_)
 simp only [evRun, evStep, zqa, Nat.reduceAdd, Nat.zero_add, List.range, List.range.loop, zqb, zqc, Region.wanted, ↓reduceIte, evPure, evalT_put, evalT_const, size_putT, hsz, Nat.reduceLT, Nat.reduceEqDiff, reduceCtorEq, intBin, qfv]
 refine Reach.more (n := 159 + 1) (by omega) (Reach.opq W (by simp [base]) (.int .u32 (IntKind.u32.wrap (bits .and .u64 (sW v 0) 2147483647))) rfl rfl (fun w hw => run_cv (k := .u64) .u32 rfl (by simp only [↓reduceIte, evalT_put, size_putT, hsz, Nat.reduceLT]) (.inr (.inr (.inl ⟨rfl, rfl, rfl⟩)))) ?_)
 refine Reach.more (n := 120 + 39) (by omega) (Reach.runs (n := 120) W (by simp [base]) (offP_ok _) 39 ?_)
 simp only [evRun, evStep, zqa, Nat.reduceAdd, Nat.zero_add, List.range, List.range.loop, zqb, zqc, Region.wanted, ↓reduceIte, evPure, evalT_put, evalT_const, size_putT, hsz, Nat.reduceLT, Nat.reduceEqDiff, reduceCtorEq, intBin, h0, qfw, qz, q1, off82_1, stA_add0]
 refine Reach.more (n := 40 + 1) (by omega) (Reach.call W (by simp [base]) rfl rfl rfl Try.func85 (by kernel_rfl) (c := Try.f85.body.getD .skip) rfl ?_)
 refine at85 (Wg := C.Wg) (d := sW v 0) (d' := sW v 1) W (size_slots _ _ (by simp [Try.f85])) ((evalT_slots _ _ _ (by simp)).trans (by simp [evalT_put, size_putT, hsz])) ((evalT_slots _ _ _ (by simp)).trans (by simp [evalT_put, size_putT, hsz])) ((evalT_slots _ _ _ (by simp)).trans (by simp [evalT_put, size_putT, hsz])) (fun T' hs9 g9 g10 g11 => ?_)
 intro w hw
 refine Goes.stop fun w₁ h₁ => ?_
 have hw₁ := W.rely w w₁ hw h₁
 refine ⟨rfl, fun u hu hg => ⟨fun he => ?_, fun hne => ?_⟩⟩
 · subst he
   have e1 : (u : Int) * KK + 1 = sW u 1 := by rw [← sW_eq]; simp
   have e0 : (u : Int) * KK = sW u 0 := by rw [← sW_eq]; simp
   rw [e0] at hg
   rw [e1]
   refine ⟨_, 340, stepG_cas_hit (ops := ops85) (i := 5) (rest := [6]) rfl (wantedA rfl) (by simp [base]) rfl Try.func100 x100_n x100_b x100_x .u64 x100_f (by rw [evalA]; exact g9) (by rw [evalA]; exact g10) (by rw [evalA]; exact g11) hg.cellSt (hg.thaw 0), ?_⟩
   rw [putA]
   have hk' : KP C L [] (w₁.setCell (stA C.Wg) (.int .u64 (sW u 1))) := ⟨hw₁.k.setWg A hk hg _, by simp⟩
   refine (?_ : Reach Try.prog true (Rm C L.kr none0) (Dm C L.kr none0) (KP C L []) (MW3 C Try.prog L.kr (FinM C L b cs)) (base 85) _ [] 340 _ [.inRegion ops85 [6], .code .ret]) _ hk'
   refine Reach.more (n := 320 + 10) (by omega) (end85 W (v := .bool true) (by rw [size_putT]; exact hs9) ((evalT_put _ _ _ _ (by rw [hs9]; decide)).trans (if_pos rfl)) ?_)
   refine Reach.more (n := 300) (by omega) (hC ?_ ?_ ?_ ?_ ?_)
   all_goals simp only [zqb, ↓reduceIte, evalT_put, size_putT, hsz, Nat.reduceLT, Nat.reduceEqDiff, Option.bind_some, reduceCtorEq, h0]
   rfl
 · have hne' : ¬ (sW u 0 = sW v 0) := by simp only [sW]; omega
   have e0 : (u : Int) * KK = sW u 0 := by rw [← sW_eq]; simp
   rw [e0] at hg
   refine ⟨_, 40, stepG_cas_miss (ops := ops85) (i := 5) (rest := [6]) rfl (wantedA rfl) (by simp [base]) rfl Try.func100 x100_n x100_b x100_x .u64 x100_f (by rw [evalA]; exact g9) (by rw [evalA]; exact g10) (by rw [evalA]; exact g11) hg.cellSt (hg.thaw 0) hne', ?_⟩
   rw [putA]
   refine (?_ : Reach Try.prog true (Rm C L.kr none0) (Dm C L.kr none0) (KP C L []) (AnchM C L b cs) (base 85) _ [] 40 _ [.inRegion ops85 [6], .code .ret]) _ hw₁
   refine Reach.more (n := 20 + 10) (by omega) (end85 W (v := .bool false) (by rw [size_putT]; exact hs9) ((evalT_put _ _ _ _ (by rw [hs9]; decide)).trans (if_pos rfl)) ?_)
   refine Reach.more (n := 16 + 4) (by omega) (Reach.runs (n := 16) W (by simp [base]) (offP_ok _) 4 ?_)
   simp only [evRun, evStep, zqb, ↓reduceIte, evalT_put, size_putT, hsz, Nat.reduceLT, Option.bind_some]
   refine Reach.more (n := 0 + 1) (by omega) (Reach.inLoop W ?_)
   refine hA _ ?_ ?_
   all_goals simp only [↓reduceIte, evalT_put, size_putT, hsz, Nat.reduceLT, reduceCtorEq, h0]
set_option maxHeartbeats 8000000 in
set_option maxRecDepth 100000 in
theorem headW (A : C.Apart) (hk : ∀ b, L.kr b → b ≠ C.Wg) (hT38 : MT C L T38) {T : Array Value} (hsz : T.size = 84) (h0 : evalT T (.tmp 0) = .pointer (some (stA C.Wg))) :
   RM C L (w1Stop C L b cs) (below b cs T38) 60 T (.code lp56 :: .inLoop lp56 :: [.inBlock 0]) := by
 have W := way0M (C := C) (L := L)
 have hZ : ∀ {T : Array Value}, T.size = 84 → evalT T (.tmp 0) = .pointer (some (stA C.Wg)) → evalT T (.tmp 11) = .int .u64 (sW 0 0) → RM C L (MKe C Try.prog L.kr (FinM C L b cs)) (below b cs T38) 200 T (.inRegion (opsOf (fst in56)) [4] :: .code (snd in56) :: tl56) := fun a b c => ldZero hT38 a b c
 have hM : ∀ {T : Array Value} {v : Nat}, v < 16 → v ≠ 0 → T.size = 84 → evalT T (.tmp 0) = .pointer (some (stA C.Wg)) → evalT T (.tmp 11) = .int .u64 (sW v 0) → RM C L (MW2 C Try.prog L.kr (AnchM C L b cs) (FinM C L b cs) v) (below b cs T38) 200 T (.inRegion (opsOf (fst in56)) [4] :: .code (snd in56) :: tl56) := fun a b c d e => ldMore A hk hT38 a b c d e
 simp only [tl56, in56, lp56, body56, Try.f56, Option.getD_some, snd, fst, inLp, inBl, opsOf] at hZ hM ⊢
 refine Reach.more (n := 41 + 10) (by omega) (Reach.runs (n := 41) W (by simp [base]) (offP_ok _) 10 ?_)
 simp only [evRun, evStep, zqa, Nat.reduceAdd, Nat.zero_add, List.range, List.range.loop, zqb, Region.wanted, ↓reduceIte, evPure, evalT_put, size_putT, hsz, Nat.reduceLT, h0, off82_1, stA_add0]
 refine Reach.more (n := 40 + 1) (by omega) (Reach.call W (by simp [base]) rfl rfl rfl Try.func77 (by kernel_rfl) (c := Try.f77.body.getD .skip) rfl ?_)
 refine at77 (Wg := C.Wg) W (size_slots _ _ (by simp [Try.f77])) ((evalT_slots _ _ _ (by simp)).trans (by simp [evalT_put, size_putT, hsz])) (fun T' hs5 g5 => ?_)
 intro w hw
 refine Goes.stop fun w₁ h₁ => ?_
 have hw₁ := W.rely w w₁ hw h₁
 refine ⟨rfl, fun v hv hg => ?_⟩
 have e0 : (v : Int) * KK = sW v 0 := by rw [← sW_eq]; simp
 rw [e0] at hg
 refine ⟨_, stepG_load_atomic (ops := ops77) (i := 3) (rest := [4]) rfl (wantedA rfl) (by simp [base]) rfl Try.func96 x96_n x96_b x96_x .u64 x96_f (by rw [evalA]; exact g5) hg.cellSt, fun hv0 => ⟨240, ?_⟩, fun hv0 => ⟨240, ?_⟩⟩
 · rw [putA]
   subst hv0
   refine (?_ : Reach Try.prog true (Rm C L.kr none0) (Dm C L.kr none0) (KP C L []) (MKe C Try.prog L.kr (FinM C L b cs)) (base 77) _ [] 240 _ [.inRegion ops77 [4], .code .ret]) _ hw₁
   refine Reach.more (n := 200 + 10) (by omega) (end77 W (v := .int .u64 (sW 0 0)) (by rw [size_putT]; exact hs5) ((evalT_put _ _ _ _ (by rw [hs5]; decide)).trans (if_pos rfl)) ?_)
   refine hZ ?_ ?_ ?_
   all_goals simp only [zqb, ↓reduceIte, evalT_put, size_putT, hsz, Nat.reduceLT, Option.bind_some, reduceCtorEq, h0]
 · rw [putA]
   refine (?_ : Reach Try.prog true (Rm C L.kr none0) (Dm C L.kr none0) (KP C L []) (MW2 C Try.prog L.kr (AnchM C L b cs) (FinM C L b cs) v) (base 77) _ [] 240 _ [.inRegion ops77 [4], .code .ret]) _ hw₁
   refine Reach.more (n := 200 + 10) (by omega) (end77 W (v := .int .u64 (sW v 0)) (by rw [size_putT]; exact hs5) ((evalT_put _ _ _ _ (by rw [hs5]; decide)).trans (if_pos rfl)) ?_)
   refine hM hv hv0 ?_ ?_ ?_
   all_goals simp only [zqb, ↓reduceIte, evalT_put, size_putT, hsz, Nat.reduceLT, Option.bind_some, reduceCtorEq, h0]
end
end Go.Proofs.Ytcoppnbjpncdcaa.Q
end
