/- AX: an executor over an abstract heap for the model's programs, and its soundness: part 4: AxDraw2, AxExec, AxExec2, AxCall, AxLaw, AxFast, AxChunk, AxExt, AxIndex, AxBelow, AxMemo, AxShape. No condition: each theorem states its own premises. -/
import Derived.RangeFuncIn
import Derived.RangeFuncRecord
import Derived.Scope
import Derived.ProofKit
import Derived.OpenShut
import GoSem.ClaimWide
import Derived.LaidMore
import Derived.Laws.Externs
import Derived.Lib.MakeNoZero
import Derived.Lib.Bytealg
import Derived.Lib.Index
import Derived.HandedShaped
import Derived.Handed
import Derived.Test.YtllkmclobkamkaaGreatDoorAx3
set_option linter.unusedSimpArgs false
set_option linter.unusedVariables false
set_option linter.unnecessarySimpa false
section
open Go (execOp)
/- AX: a region whose order is drawn: the theorem. -/
namespace Go.AX

section
variable {C : Cfg} {B n₀ : Nat} {call : CallF} {ops : Array Oper} {base n : Nat} {m : Nat → Mark1} {s : Nat → St} {v : Nat → AV}
variable {H0 : AHeap} {G0 G' : Ghost} {w0 w' : World} {S : Nat → Prop} {G : Ghost} {a : Act} {w : World} {qS qS' : Nat} {K K' : AHeap}

theorem least {p : Nat → Prop} : ∀ {a b : Nat}, a ≤ b → (∃ r, a ≤ r ∧ r < b ∧ p r) → ∃ r, a ≤ r ∧ r < b ∧ p r ∧ ∀ r', a ≤ r' → r' < r → ¬ p r' := by
  intro a b hab
  induction hab with
  | refl => rintro ⟨r, h1, h2, _⟩; omega
  | @step b hab ih =>
    rintro ⟨r, h1, h2, h3⟩
    by_cases c : ∃ r, a ≤ r ∧ r < b ∧ p r
    · obtain ⟨r', g1, g2, g3, g4⟩ := ih c
      exact ⟨r', g1, by omega, g3, g4⟩
    · have hr : r = b := by
        rcases Nat.lt_or_ge r b with h | h
        · exact absurd ⟨r, h1, h, h3⟩ c
        · omega
      subst hr
      exact ⟨r, h1, h2, h3, fun r' g1 g2 g3 => c ⟨r', g1, g2, g3⟩⟩

/-- a reader: a heap in which it reads what it read in the one run -/
theorem Inv.reads (T : Told C call ops base n m s v) (I : Inv C B n₀ ops base n m s v H0 G0 w0 S G a w qS K) {q : Nat} (hq : q < n) (hno : ¬ S (m q).i) (hready : ∀ e ∈ (m q).o.after, Region.binds .any e = true → S e.on)
    (h1 : cls C m q = 1) (hv : evalRead C (s q).H (evalO C (onlyEnv (s q).env ((m q).o.looksAt ops))) (m q).o = some (v q)) :
    ∃ A, Sim B G A w ∧ evalRead C A (evalO C (onlyEnv (s q).env ((m q).o.looksAt ops))) (m q).o = some (v q) := by
  obtain ⟨t1, t2, t3⟩ := T.mark q hq
  have hv' : evalRead C (m q).a.H (evalO C (m q).a.env) (m q).o = some (v q) := by rw [t1, t2]; exact hv
  have frs : ∀ p, p < q → cls C m p = 3 → S (m p).i := fun p hp hc => by
    by_cases hS : S (m p).i
    · exact hS
    · exact ((I.ahead T hq hp hS hready).fresh hc (.inl h1)).elim
  by_cases hge : qS ≤ q
  · by_cases hex : ∃ r, qS ≤ r ∧ r < q ∧ cls C m r = 2
    · obtain ⟨r, g1, g2, g3, g4⟩ := least hge hex
      have hS : ¬ S (m r).i := fun h => by have := (I.chain r (by omega) g3).1 h; omega
      have hk := keepsRead_eq ((I.ahead T hq g2 hS hready).cr g3 h1) hv'
      obtain ⟨u1, u2, u3⟩ := T.mark r (by omega)
      refine ⟨(s r).H, I.subsim T (by omega) g1 (fun p a b => g4 p a b) (fun p a b hc => frs p (by omega) hc), ?_⟩
      rw [← t1, ← u2]; exact hk.1
    · exact ⟨(s q).H, I.subsim T (Nat.le_of_lt hq) hge (fun p a b hc => hex ⟨p, a, b, hc⟩) (fun p a b hc => frs p b hc), hv⟩
  · rcases I.top with h0 | ⟨c, rfl, hc, hcl⟩
    · omega
    · have hS : S (m c).i := (I.chain c hc hcl).2 (by omega)
      have hne : q ≠ c := fun e => hno (e ▸ hS)
      have hk := keepsRead_eq ((I.behind T hq hc (by omega) hno hS).rc h1 hcl) hv'
      obtain ⟨u1, u2, u3⟩ := T.mark c hc
      refine ⟨(s (c + 1)).H, I.subsim T I.qs (Nat.le_refl _) (fun p a b => by omega) (fun p a b => by omega), ?_⟩
      rw [← t1, ← u3]; exact hk.2

theorem Inv.turn (hext : ExtOk C) (hcall : CallOk C B call) (T : Told C call ops base n m s v) (I : Inv C B n₀ ops base n m s v H0 G0 w0 S G a w qS K) {q : Nat} (hq : q < n) (hno : ¬ S (m q).i)
    (hready : ∀ e ∈ (m q).o.after, Region.binds .any e = true → S e.on) {Kn : Act → World → Prop} {Q : Exit → Act → World → Prop} (hK : ∀ a' w', More C B n₀ ops base n m s v H0 G0 w0 S q a' w' → Kn a' w') :
    wpOp C.P ops Q (m q).i Kn a w := by
  have henv := I.env T hq hno hready
  have hρ := repO henv I.glob
  have hop := T.run.op q hq
  have hwant := wanted_sound henv (T.run.wan q hq)
  have hd := T.run.did q hq
  unfold wpOp
  simp only [hop]
  rw [hwant]
  unfold Did at hd
  have hcls : cls C m q = bif (m q).want then (wayOf C.P (m q).o).cls else 0 := rfl
  cases hw : (m q).want with
  | false =>
    simp only [hw, Bool.false_eq_true, if_false] at hd ⊢
    rw [hw] at hcls
    exact hK _ _ (I.calm T hq hno hready (by rw [hd.1]; exact undef_rep) (by rw [hcls]; simp) (by rw [hcls]; simp))
  | true =>
    simp only [hw, if_true] at hd ⊢
    rw [hw, cond_true] at hcls
    left
    unfold Oper.wp
    cases hway : wayOf C.P (m q).o <;> rw [hway] at hd hcls <;> simp only [Way.cls] at hd hcls
    case pure =>
      obtain ⟨x, hx, hr⟩ := evalPure_sound hρ hd.1
      rw [hx]
      exact hK _ _ (I.calm T hq hno hready hr (by rw [hcls]; decide) (by rw [hcls]; decide))
    case read =>
      obtain ⟨A, hA, hv⟩ := I.reads T hq hno hready hcls hd.1
      obtain ⟨x, hx, hr⟩ := evalRead_sound hA hρ hv
      rw [hx]
      exact hK _ _ (I.calm T hq hno hready hr (by rw [hcls]; decide) (by rw [hcls]; decide))
    case fresh =>
      obtain ⟨blk, h1, h2⟩ := hd
      obtain ⟨ob, x, hx, hb, hv⟩ := evalFresh_sound I.sim.nsmall hρ h1
      rw [hx]
      exact hK _ _ (I.fresh T hq hno hready hb h2 hv hcls)
    case chg =>
      obtain ⟨hge, hch, hfr⟩ := I.here T hq hno hready hcls
      have hs := I.subsim T (Nat.le_of_lt hq) hge hch hfr
      obtain ⟨G', w', s', e', hres⟩ := evalChg_sound hs hρ hd
      rcases hres with ⟨x, hx, hr⟩ | ⟨hx, hvv⟩
      · rw [hx]; exact hK _ _ (I.link T hq hno hready s' e' hr hcls)
      · rw [hx]; exact hK _ _ (I.link T hq hno hready s' e' (by rw [hvv]; exact undef_rep) hcls)
    case call c =>
      obtain ⟨hge, hch, hfr⟩ := I.here T hq hno hready hcls
      have hs := I.subsim T (Nat.le_of_lt hq) hge hch hfr
      obtain ⟨f, args, cap, h1, h2⟩ := hd
      obtain ⟨d, fv, cp, xs, hres, htar, hinv, hxs⟩ := called_sound (type := (m q).o.type) hρ h1
      have hopc : (m q).o.op = .call c := by
        unfold wayOf at hway
        split at hway <;> try contradiction
        split at hway <;> try contradiction
        rename_i c' hc'
        split at hway <;> try contradiction
        simp only [Way.call.injEq] at hway; subst hway; exact hc'
      have hrun0 : (execOp a.eval (m q).o).run C.P w = (callFunc f ⟨xs⟩).run C.P w := by
        unfold execOp
        simp only [hopc]
        rw [run_bind_ok (hres w)]
        exact hinv w
      rcases h2 with ⟨hb, h2⟩ | ⟨hb, h2⟩
      · rw [hrun0, callFunc_body hb, Oper.upon_enter]
        refine Calls.mono (hcall f _ _ _ _ h2 G w xs hs I.glob hxs) fun e w' ⟨G', s', e', hend⟩ => ?_
        cases e <;> simp only [EndRep] at hend
        exact hK _ _ (I.link T hq hno hready s' e' hend hcls)
      · obtain ⟨x, w', G', hx, s', e', hr⟩ := hext f _ _ _ _ h2 B G w xs hs hxs
        rw [hrun0, hx]
        exact hK _ _ (I.link T hq hno hready s' e' hr hcls)

/-- how many have not run -/
def leftOf (listed : Array Bool) (n : Nat) : Nat := ((List.range n).filter fun j => !(listed.getD j true)).length

theorem filter_less {p p' : Nat → Bool} : ∀ {l : List Nat} {j : Nat}, j ∈ l → p j = true → p' j = false → (∀ i, p' i = true → p i = true) → (l.filter p').length < (l.filter p).length
  | [], j, h, _, _, _ => by simp at h
  | x :: l, j, h, h1, h2, h3 => by
    have mono : (l.filter p').length ≤ (l.filter p).length := by
      clear h
      induction l with
      | nil => simp
      | cons y l ih =>
        simp only [List.filter_cons]
        cases hy : p' y with
        | true => rw [h3 y hy]; simp; exact ih
        | false => cases p y <;> simp <;> omega
    simp only [List.filter_cons]
    rcases List.mem_cons.1 h with rfl | h
    · rw [h1, h2]; simp; omega
    · have := filter_less (p := p) (p' := p') h h1 h2 h3
      cases hx : p' x with
      | true => rw [h3 x hx]; simp; exact this
      | false => cases p x <;> simp <;> omega

theorem any_sound (hext : ExtOk C) (hcall : CallOk C B call) (T : Told C call ops base n m s v) {Q : Exit → Act → World → Prop}
    (hQ : ∀ S G a w qS K, Inv C B n₀ ops base n m s v H0 G0 w0 S G a w qS K → (∀ q < n, S (m q).i) → Q .normal a w) :
    ∀ (fuel : Nat) (listed : Array Bool) (G : Ghost) (a : Act) (w : World) (qS : Nat) (K : AHeap) (S : Nat → Prop), (∀ j, S j ↔ (listed.getD j false = true)) → listed.size = ops.size →
      Inv C B n₀ ops base n m s v H0 G0 w0 S G a w qS K → leftOf listed ops.size ≤ fuel → wpAny C.P .any ops Q fuel listed a w := by
  intro fuel
  have idx : ∀ q < n, (m q).i < ops.size := fun q hq => (Array.getElem?_eq_some_iff.1 (T.run.op q hq)).1
  have both : ∀ {listed : Array Bool} {j : Nat}, listed.size = ops.size → j < ops.size → listed.getD j true = listed.getD j false := fun {listed j} hsz hj => by
    have : j < listed.size := by omega
    simp [Array.getD, this]
  induction fuel with
  | zero =>
    intro listed G a w qS K S hS hsz I hl
    have hall : ∀ j < ops.size, listed.getD j true = true := fun j hj => by
      have h0 : leftOf listed ops.size = 0 := by omega
      unfold leftOf at h0
      have := List.filter_eq_nil_iff.1 (List.length_eq_zero_iff.1 h0) j (List.mem_range.2 hj)
      simpa using this
    refine ⟨?_, hQ S G a w qS K I fun q hq => (hS _).2 (by rw [← both hsz (idx q hq)]; exact hall _ (idx q hq))⟩
    cases hr : Region.ready .any ops listed with
    | nil => rfl
    | cons j r =>
      exfalso
      have hj : j ∈ Region.ready .any ops listed := by rw [hr]; exact List.mem_cons_self
      obtain ⟨h1, o, ho, _⟩ := mem_ready.1 hj
      rw [hall j (Array.getElem?_eq_some_iff.1 ho).1] at h1
      cases h1
  | succ fuel ih =>
    intro listed G a w qS K S hS hsz I hl
    refine ⟨fun hr => hQ S G a w qS K I fun q hq => ?_, fun i hi => ?_⟩
    · by_cases c : ∃ r, 0 ≤ r ∧ r < n ∧ ¬ S (m r).i
      · exfalso
        obtain ⟨r, _, g2, g3, g4⟩ := least (Nat.zero_le n) c
        have : (m r).i ∈ Region.ready .any ops listed := by
          refine mem_ready.2 ⟨?_, (m r).o, T.run.op r g2, fun e he hb => ?_⟩
          · rw [both hsz (idx r g2)]
            cases hh : listed.getD (m r).i false with
            | false => rfl
            | true => exact absurd ((hS _).2 hh) g3
          · obtain ⟨q', hq', hh⟩ := T.run.topo r g2 e he hb
            have hh : (m q').i = e.on := hh
            rw [← hh]
            exact (hS _).1 (Classical.not_not.1 (g4 q' (Nat.zero_le _) hq'))
        rw [hr] at this
        simp at this
      · exact Classical.not_not.1 fun h => c ⟨q, Nat.zero_le _, hq, h⟩
    · obtain ⟨h1, o, ho, hafter⟩ := mem_ready.1 hi
      have hlt : i < ops.size := (Array.getElem?_eq_some_iff.1 ho).1
      obtain ⟨q, hq, rfl⟩ := T.all i hlt
      have hoq := T.run.op q hq
      rw [ho] at hoq
      simp only [Option.some.injEq] at hoq
      have hno : ¬ S (m q).i := fun h => by
        have := (hS _).1 h
        rw [← both hsz hlt, h1] at this
        cases this
      refine I.turn hext hcall T hq hno (fun e he hb => (hS _).2 (hafter e (hoq ▸ he) hb)) fun a' w' ⟨G', qS', K', I'⟩ => ?_
      refine ih (listed.setIfInBounds (m q).i true) G' a' w' qS' K' _ (fun j => ?_) (by simp [hsz]) I' ?_
      · by_cases e : j = (m q).i
        · subst e
          have : (m q).i < listed.size := by omega
          simp [Array.getD, this]
        · rw [getD_set_ne false (Ne.symm e)]
          simp [e, hS j]
      · have : leftOf (listed.setIfInBounds (m q).i true) ops.size < leftOf listed ops.size := by
          refine filter_less (j := (m q).i) (List.mem_range.2 hlt) (by rw [h1]; rfl) ?_ fun j hj => ?_
          · have : (m q).i < listed.size := by omega
            simp [Array.getD, this]
          · by_cases e : j = (m q).i
            · subst e; rw [h1]; rfl
            · rw [getD_set_ne true (Ne.symm e)] at hj; exact hj
        omega

theorem draw_sound (hext : ExtOk C) (hcall : CallOk C B call) {order : List Nat} {st st' : St} {ms : List Mark1}
    (h0 : ((List.range ops.size).all fun j => order.any (Nat.beq j)) = true) (hns : Region.noSelect ops = true)
    (h1 : runDraw C call ops st.H.next order { st with H := ⟨st.H.next + ops.size, st.H.tr⟩ } [] = some (ms, st')) (h2 : drawOk C ops (befTab ops) st.H.next ms = true)
    (hst : StRep C B n₀ G st a w) : wpAny C.P .any ops (fun e a' w' => e = .normal ∧ Left C B n₀ G st w st' a' w') ops.size (Array.replicate ops.size false) a { w with drawn := w.drawn + 1 } := by
  obtain ⟨st0, hst0⟩ : ∃ x : St, x = { st with H := ⟨st.H.next + ops.size, st.H.tr⟩ } := ⟨_, rfl⟩
  rw [← hst0] at h1
  obtain ⟨m, s, c1, c2, c3, c4, c5, c6⟩ := runDraw_canon order st0 [] ms st' h1 (fun _ => ⟨0, default, false, st0, st0⟩) (fun _ => st0)
    ⟨fun q h => absurd h (Nat.not_lt_zero q), fun q _ h => absurd h (Nat.not_lt_zero q), fun q h => absurd h (Nat.not_lt_zero q), fun q h => absurd h (Nat.not_lt_zero q), fun q h => absurd h (Nat.not_lt_zero q), fun q h => absurd h (Nat.not_lt_zero q), fun q h => absurd h (Nat.not_lt_zero q), fun q h => absurd h (Nat.not_lt_zero q)⟩ rfl (fun q h => absurd h (Nat.not_lt_zero q))
  obtain ⟨v, r1, r2, r3⟩ := c1.run
  have hin : ∀ q < ms.length, m q ∈ ms := fun q hq => by
    have := List.mem_of_getElem? (c3 q hq)
    simpa using this
  have T : Told C call ops st.H.next ms.length m s v := by
    refine ⟨r1, r2, r3, fun q q' hlt hq' => ?_, fun q hq => ?_, fun j hj => ?_, hns⟩
    · have := pair_spec (canon_pairs h2 c3 q q' hlt hq')
      rw [(r2 q (by omega)).2.1] at this
      exact this
    · intro h3; rw [← (r2 q hq).2.1]; exact drawOk_own h2 _ (hin q hq) h3
    · have := List.all_eq_true.1 h0 j (List.mem_range.2 hj)
      obtain ⟨k, hk, e⟩ := List.any_eq_true.1 this
      rw [nbeq, decide_eq_true_iff] at e
      subst e
      exact c5 _ hk
  have hH0 : (s 0).H = ⟨st.H.next + ops.size, st.H.tr⟩ := by rw [c4, hst0]
  have hE0 : (s 0).env = st.env := by rw [c4, hst0]
  have hz0 : (s 0).size = st.size := by rw [c4, hst0]
  have hd0 : (s 0).dfr = st.dfr := by rw [c4, hst0]
  have hr0 : (s 0).rc = st.rc := by rw [c4, hst0]
  obtain ⟨g1, g2, g3⟩ := hst.sim.drew (w.drawn + 1)
  have hsim0 : Sim B G (s 0).H { w with drawn := w.drawn + 1 } := by
    rw [hH0]
    exact g1.sub (fun i b hi => hi) (Nat.le_add_right _ _)
  have hext0 : Ext0 B st.H G w (s 0).H G { w with drawn := w.drawn + 1 } := by
    rw [hH0]
    exact ⟨g2.os, g2.tape, g2.output, g2.size, g2.β, g2.N, g2.other, g2.live, g2.shape, Nat.le_add_right _ _⟩
  have I : Inv C B n₀ ops st.H.next ms.length m s v st.H G w (fun _ => False) G a { w with drawn := w.drawn + 1 } 0 (s 0).H := by
    refine ⟨fun i o _ h => h.elim, hsim0, hst.glob.mono g3, by rw [hd0]; exact DfrRep.mono hst.sim hext0 hst.dfr, by rw [hz0]; exact hst.env.size, fun q _ h => h.elim, fun t u ht _ => ?_, hext0, rfl, by rw [hH0]; exact Nat.le_refl _, fun q hq _ => ?_, fun j _ h => h, Nat.zero_le _,
      fun q _ _ => ⟨fun h => h.elim, fun h => absurd h (Nat.not_lt_zero q)⟩, .inl rfl, fun _ _ h => h, fun q _ _ h => h.elim, fun _ _ h => .inl h⟩
    · rw [hE0] at ht
      obtain ⟨x, h1, h2⟩ := hst.env.get t u ht
      exact ⟨x, h1, Rep.mono g3 _ _ h2⟩
    · cases hh : G.β (st.H.next + (m q).i) with
      | none => rfl
      | some k => have := hst.sim.old _ _ hh; omega
  refine any_sound hext hcall T (fun S G' a' w' qS K J hall => ⟨rfl, ?fin⟩) ops.size _ G a _ 0 (s 0).H (fun _ => False) (fun j => ?lst) (by simp) I ?cnt
  case fin =>
    have hch : ∀ p, qS ≤ p → p < ms.length → cls C m p ≠ 2 := fun p h1 h2 hc => by have := (J.chain p h2 hc).1 (hall p h2); omega
    obtain ⟨k1, k2⟩ := J.part T (Nat.le_refl _) J.qs hch (fun p _ h2 _ => hall p h2)
    have hK : ∀ id b, st'.H.get id = some b → K.get id = some b := fun id b hb => k1 id b (by rw [c2]; exact hb)
    have hnx : K.next = st'.H.next := by rw [k2, c2]
    obtain ⟨e1, e2, e3⟩ := r3 ms.length (Nat.le_refl _)
    rw [c2] at e1 e2 e3
    have hsim' : Sim B G' st'.H w' := J.sim.sub hK (Nat.le_of_eq hnx)
    have hx' : Ext0 B st.H G w st'.H G' w' := ⟨J.ext.os, J.ext.tape, J.ext.output, J.ext.size, J.ext.β, J.ext.N, J.ext.other, fun i blk k hi => J.ext.live i blk k (hK i blk hi), J.ext.shape, by rw [← hnx]; exact J.ext.next⟩
    refine ⟨G', ⟨⟨?_, fun t u ht => ?_⟩, hsim', J.glob, ?_⟩, ⟨hx', J.low⟩, by rw [e3, hr0]⟩
    · rw [J.size, e1]
    · -- the temporaries
      have prov : ∀ p, p ≤ ms.length → ∀ u, (s p).env.get t = some u → (∃ p' < p, (m p').o.dst = some t ∧ u = v p') ∨ ((s 0).env.get t = some u ∧ ∀ p' < p, (m p').o.dst ≠ some t) := by
        intro p
        induction p with
        | zero => intro _ u hu; exact .inr ⟨hu, fun p' h => by omega⟩
        | succ p ih =>
          intro hp u hu
          have := T.run.En p (by omega) t
          rw [this] at hu
          by_cases e : (m p).o.dst = some t
          · rw [if_pos e] at hu
            simp only [Option.some.injEq] at hu
            exact .inl ⟨p, by omega, e, hu.symm⟩
          · rw [if_neg e] at hu
            rcases ih (by omega) u hu with ⟨p', h1, h2⟩ | ⟨h1, h2⟩
            · exact .inl ⟨p', by omega, h2⟩
            · refine .inr ⟨h1, fun p' h => ?_⟩
              by_cases e' : p' = p
              · rw [e']; exact e
              · exact h2 p' (by omega)
      rcases prov ms.length (Nat.le_refl _) u (by rw [c2]; exact ht) with ⟨p, hp, hdst, rfl⟩ | ⟨hu, hnone⟩
      · exact J.envA p hp (hall p hp) t hdst
      · exact J.envB t u hu fun p hp _ => hnone p hp
    · rw [e2]
      have hKx : Ext0 B K G' w' st'.H G' w' := ⟨rfl, rfl, rfl, Nat.le_refl _, fun _ _ h => h, rfl, fun _ _ _ => rfl, fun i blk k hi hk _ => ⟨i, blk, hK i blk hi, hk⟩, fun _ c _ f h => ⟨c, f, h, rfl⟩, Nat.le_of_eq hnx⟩
      exact DfrRep.mono J.sim hKx J.dfr
  case lst => simp [Array.getD]
  case cnt =>
    unfold leftOf
    exact Nat.le_trans (List.length_filter_le _ _) (by simp)
end
end Go.AX
end
section
open Go (execOp)
/- AX: a frame's code. -/
namespace Go.AX

section
variable {C : Cfg} {P : Program} {B n₀ : Nat} {G : Ghost} {H : AHeap} {w : World}

/-- a block that nobody here knows of -/
theorem Sim.alien (hs : Sim B G H w) (ob : Obj) : Sim B G H (plus w ob) ∧ Ext B H G w H G (plus w ob) := by
  have hsame : ∀ k, k < w.heap.size → (plus w ob).heap[k]? = w.heap[k]? := fun k hk => by
    show (w.heap.push ob)[k]? = _
    rw [getElem_push, if_neg (by omega)]
  have he : Ext B H G w H G (plus w ob) := ⟨⟨rfl, rfl, rfl, by show _ ≤ (w.heap.push ob).size; rw [Array.size_push]; omega, fun _ _ h => h, rfl, fun b hb _ => hsame b hb, fun i blk k h1 h2 _ => ⟨i, blk, h1, h2⟩,
    fun b c t f hb => ⟨c, f, (hsame b (Array.getElem?_eq_some_iff.1 hb).1).trans hb, rfl⟩, Nat.le_refl _⟩, fun _ _ h => h⟩
  have hsz : w.heap.size ≤ (plus w ob).heap.size := he.size
  refine ⟨⟨fun i b hb => ?_, hs.inj, hs.old, fun i k hk => Nat.lt_of_lt_of_le (hs.small i k hk) hsz, fun b hb => Nat.lt_of_lt_of_le (hs.nsmall b hb) hsz, Nat.le_trans hs.base hsz⟩, he⟩
  obtain ⟨k, h1, h2, h3, h4⟩ := hs.blk i b hb
  exact ⟨k, h1, h2, h3, h4.mono (he.le hs) (hsame k (hs.small _ _ h1))⟩

/-- an object that nobody here knows of is put anew; it was made behind 'w' -/
theorem Ext.touch {H' : AHeap} {G' : Ghost} {w' w'' : World} {l : Nat} (he : Ext0 B H G w H' G' w') (hs' : Sim B G' H' w') (hl : w.heap.size ≤ l) (hno : ∀ i b, H'.get i = some b → G'.β i ≠ some l) (hN : ¬ G'.N l)
    (hos : w''.os = w'.os) (htape : w''.tape = w'.tape) (hout : w''.output = w'.output) (hsz : w''.heap.size = w'.heap.size) (hsame : ∀ k, k ≠ l → w''.heap[k]? = w'.heap[k]?)
    (hnc : ∀ c t f, w'.heap[l]? ≠ some (.cells c t f)) : Ext0 B H G w H' G' w'' ∧ Sim B G' H' w'' ∧ Le G' w' G' w'' := by
  have hle : Le G' w' G' w'' := ⟨fun _ _ h => h, fun _ h => h, fun b hb => hsame b (fun e => hN (e ▸ hb)), fun b c t f hb => by
    by_cases e : b = l
    · subst e; exact absurd hb (hnc _ _ _)
    · exact ⟨c, f, (hsame b e).trans hb, rfl⟩⟩
  refine ⟨⟨hos.trans he.os, htape.trans he.tape, hout.trans he.output, by rw [hsz]; exact he.size, he.β, he.N, fun b hb hno' => (hsame b (by omega)).trans (he.other b hb hno'), he.live, fun b c t f hb => ?_, he.next⟩, ⟨fun i b hb => ?_, hs'.inj, hs'.old, fun i k hk => by rw [hsz]; exact hs'.small i k hk, fun b hb => by rw [hsz]; exact hs'.nsmall b hb, by rw [hsz]; exact hs'.base⟩, hle⟩
  · obtain ⟨c', f', g1, g2⟩ := he.shape b c t f hb
    have : b < w.heap.size := (Array.getElem?_eq_some_iff.1 hb).1
    exact ⟨c', f', (hsame b (by omega)).trans g1, g2⟩
  · obtain ⟨k, h1, h2, h3, h4⟩ := hs'.blk i b hb
    exact ⟨k, h1, h2, h3, h4.mono hle (hsame k (fun e => hno i b hb (e ▸ h1)))⟩

/-- how a frame's code comes out -/
def OutRep (G : Ghost) (w : World) : Out → Exit → Prop
  | .normal, .normal => True
  | .exit i, .exit j => i = j
  | .goto i, .goto j => i = j
  | .ret, .ret => True
  | .pan v, .panic ch => ∃ x, ch = [{ v := x, recovered := false }] ∧ Rep G w v x
  | _, _ => False

def Went (C : Cfg) (B n₀ : Nat) (c₀ : Frame) (cs₀ : List Frame) (G : Ghost) (st : St) (w : World) (cs : List Frame) (out : Out) (st' : St) (e : Exit) (a' : Act) (cs' : List Frame) (w' : World) : Prop :=
  ∃ G', StRep C B n₀ G' st' a' w' ∧ Ext B st.H G w st'.H G' w' ∧ RcRep c₀ cs₀ G' w' st'.rc cs' ∧ st'.rc.isOff = st.rc.isOff ∧ (st.rc.isOff = true → cs' = cs) ∧ OutRep G' w' out e

def FrameOk (rc : Rc) (b : Frame) : Prop := rc.isOff = true ∨ (b.kind = .deferred ∧ b.roundOf = none)

theorem Rc.off_of {rc : Rc} (h : rc.isOff = true) : rc = .off := by cases rc <;> simp [Rc.isOff] at h ⊢

def ExecOk (C : Cfg) (B n₀ : Nat) (c₀ : Frame) (cs₀ : List Frame) (st : St) (out : Out) (st' : St) (first : List Item) : Prop :=
  ∀ (G : Ghost) (a : Act) (cs : List Frame) (w : World) (b : Frame) (k : List Item), StRep C B n₀ G st a w → RcRep c₀ cs₀ G w st.rc cs → FrameOk st.rc b → n₀ ≤ w.heap.size →
    ∃ e a' cs' w', Went C B n₀ c₀ cs₀ G st w cs out st' e a' cs' w' ∧ Arrives C.P (lone (b.at a (first ++ k)) cs w) b k cs' e a' w'

variable {c₀ : Frame} {cs₀ : List Frame}

theorem FrameOk.later {rc rc' : Rc} {b : Frame} (h : FrameOk rc b) (e : rc'.isOff = rc.isOff) : FrameOk rc' b := by unfold FrameOk at *; rw [e]; exact h

theorem ExecOk.step {st : St} {out : Out} {st' : St} {f1 f2 : List Item} (hs : ∀ (b : Frame) (a : Act) (k : List Item) (cs : List Frame) (w : World), step C.P (lone (b.at a (f1 ++ k)) cs w) = .next (lone (b.at a (f2 ++ k)) cs w))
    (h : ExecOk C B n₀ c₀ cs₀ st out st' f2) : ExecOk C B n₀ c₀ cs₀ st out st' f1 := by
  intro G a cs w b k h1 h2 h3 h4
  obtain ⟨e, a', cs', w', g1, g2⟩ := h G a cs w b k h1 h2 h3 h4
  exact ⟨e, a', cs', w', g1, .of_steps (.one (hs b a k cs w)) g2⟩

/-- one behind the other -/
theorem ExecOk.seq {st st1 st' : St} {out : Out} {x y : Item} {ys : List Item} (h : ExecOk C B n₀ c₀ cs₀ st .normal st1 [x]) (h' : ExecOk C B n₀ c₀ cs₀ st1 out st' (y :: ys)) : ExecOk C B n₀ c₀ cs₀ st out st' (x :: y :: ys) := by
  intro G a cs w b k h1 h2 h3 h4
  obtain ⟨e, a1, cs1, w1, ⟨G1, d1, d2, d3, d4, d5, d6⟩, g2⟩ := h G a cs w b (y :: ys ++ k) h1 h2 h3 h4
  cases e <;> simp only [OutRep] at d6
  obtain ⟨e, a2, cs2, w2, ⟨G2, e1, e2, e3, e4, e5, e6⟩, g3⟩ := h' G1 a1 cs1 w1 b k d1 d3 (h3.later d4) (Nat.le_trans h4 d2.size)
  exact ⟨e, a2, cs2, w2, ⟨G2, e1, d2.trans e2, e3, e4.trans d4, fun ho => (e5 (d4.trans ho)).trans (d5 ho), e6⟩, .of_steps g2 g3⟩

/-- no way on: what stands behind is passed -/
theorem ExecOk.pass {st st' : St} {out : Out} {x y : Item} (hy : y.plain = true) (hn : ∀ G w e, OutRep G w out e → e ≠ .normal) (h : ExecOk C B n₀ c₀ cs₀ st out st' [x]) : ExecOk C B n₀ c₀ cs₀ st out st' [x, y] := by
  intro G a cs w b k h1 h2 h3 h4
  obtain ⟨e, a1, cs1, w1, hw, g2⟩ := h G a cs w b (y :: k) h1 h2 h3 h4
  obtain ⟨G1, d1, d2, d3, d4, d5, d6⟩ := hw
  exact ⟨e, a1, cs1, w1, ⟨G1, d1, d2, d3, d4, d5, d6⟩, .pass (x := y) hy (fun _ _ => .inl (hn _ _ _ d6)) g2⟩

theorem ExecOk.stay {st : St} {out : Out} {e : Exit} {f : List Item} (ho : ∀ G w, OutRep G w out e)
    (h : ∀ (b : Frame) (a : Act) (k : List Item) (cs : List Frame) (w : World), Arrives C.P (lone (b.at a (f ++ k)) cs w) b k cs e a w) : ExecOk C B n₀ c₀ cs₀ st out st f := by
  intro G a cs w b k h1 h2 h3 h4
  exact ⟨e, a, cs, w, ⟨G, h1, Ext.refl _ _ _ _, h2, rfl, fun _ => rfl, ho _ _⟩, h b a k cs w⟩

theorem ExecOk.block {st st' : St} {out out' : Out} {id : Nat} {c : Code} (h : ExecOk C B n₀ c₀ cs₀ st out st' [.code c])
    (ho : (out' = match out with | .exit i => if i = id then .normal else .exit i | o => o)) : ExecOk C B n₀ c₀ cs₀ st out' st' [.code (.block id c)] := by
  intro G a cs w b k h1 h2 h3 h4
  obtain ⟨e, a1, cs1, w1, ⟨G1, d1, d2, d3, d4, d5, d6⟩, harr⟩ := h G a cs w b (.inBlock id :: k) h1 h2 h3 h4
  have went : ∀ e', OutRep G1 w1 out' e' → Went C B n₀ c₀ cs₀ G st w cs out' st' e' a1 cs1 w1 := fun e' he' => ⟨G1, d1, d2, d3, d4, d5, he'⟩
  cases e with
  | normal =>
    cases out <;> simp only [OutRep] at d6
    subst ho
    exact ⟨.normal, a1, cs1, w1, went _ trivial, .head step_block (Steps.trans harr (.one step_inBlock))⟩
  | exit id' =>
    cases out <;> simp only [OutRep] at d6
    subst d6
    rename_i i
    by_cases hid : i = id
    · simp only [hid, if_true] at ho
      subst ho
      exact ⟨.normal, a1, cs1, w1, went _ trivial, .head step_block (harr k (by simp [exitTo, hid]))⟩
    · simp only [hid, if_false] at ho
      subst ho
      refine ⟨.exit i, a1, cs1, w1, went _ rfl, fun k' hk => .head step_block (harr k' ?_)⟩
      have : (id == i) = false := by simp; exact fun h => hid h.symm
      simp [exitTo, this, hk]
  | goto l =>
    cases out <;> simp only [OutRep] at d6
    subst d6
    subst ho
    exact ⟨.goto _, a1, cs1, w1, went _ rfl, fun k' hk => .head step_block (harr k' (by simpa [gotoIn] using hk))⟩
  | ret =>
    cases out <;> simp only [OutRep] at d6
    subst ho
    exact ⟨_, a1, cs1, w1, went .ret trivial, .of_steps (.one step_block) harr⟩
  | panic ch =>
    cases out <;> simp only [OutRep] at d6
    subst ho
    exact ⟨_, a1, cs1, w1, went (.panic ch) d6, .of_steps (.one step_block) harr⟩
  | outgrown => cases out <;> simp only [OutRep] at d6

theorem ExecOk.scope {ex : Code → St → Option (Out × St)} (hex : ∀ (c : Code) (st : St) (out : Out) (st' : St), ex c st = some (out, st') → ExecOk C B n₀ c₀ cs₀ st out st' [.code c]) (c : Code) :
    ∀ (m : Nat) (run : Code) (st : St) (out : Out) (st' : St), scopeRun ex m c run st = some (out, st') → ExecOk C B n₀ c₀ cs₀ st out st' [.code run, .inScope c]
  | 0, run, st, out, st', h => by simp [scopeRun] at h
  | m + 1, run, st, out, st', h => by
    rw [scopeRun] at h
    intro G a cs w b k h1 h2 h3 h4
    cases hx : ex run st with
    | none => rw [hx] at h; simp at h
    | some r =>
      obtain ⟨o1, st1⟩ := r
      rw [hx] at h
      obtain ⟨e, a1, cs1, w1, ⟨G1, d1, d2, d3, d4, d5, d6⟩, harr⟩ := hex run st _ _ hx G a cs w b (.inScope c :: k) h1 h2 h3 h4
      have pass : ∀ (out' : Out), o1 = out' → some (o1, st1) = some (out, st') → out' = out ∧ st1 = st' := fun out' e1 e2 => by
        simp only [Option.some.injEq, Prod.mk.injEq] at e2
        exact ⟨e1.symm.trans e2.1, e2.2⟩
      cases o1 with
      | normal =>
        obtain ⟨rfl, rfl⟩ := pass _ rfl h
        cases e <;> simp only [OutRep] at d6
        exact ⟨.normal, a1, cs1, w1, ⟨G1, d1, d2, d3, d4, d5, trivial⟩, Steps.trans harr (.one step_inScope)⟩
      | exit i =>
        obtain ⟨rfl, rfl⟩ := pass _ rfl h
        cases e <;> simp only [OutRep] at d6
        subst d6
        exact ⟨.exit i, a1, cs1, w1, ⟨G1, d1, d2, d3, d4, d5, rfl⟩, fun k' hk => harr k' (by simp [exitTo, hk])⟩
      | ret =>
        obtain ⟨rfl, rfl⟩ := pass _ rfl h
        cases e <;> simp only [OutRep] at d6
        exact ⟨.ret, a1, cs1, w1, ⟨G1, d1, d2, d3, d4, d5, trivial⟩, harr⟩
      | pan v =>
        obtain ⟨rfl, rfl⟩ := pass _ rfl h
        cases e <;> simp only [OutRep] at d6
        exact ⟨.panic _, a1, cs1, w1, ⟨G1, d1, d2, d3, d4, d5, d6⟩, harr⟩
      | goto l =>
        cases e <;> simp only [OutRep] at d6
        subst d6
        cases hf : findLabel c l with
        | none =>
          simp only [hf] at h
          obtain ⟨rfl, rfl⟩ := pass _ rfl h
          exact ⟨.goto l, a1, cs1, w1, ⟨G1, d1, d2, d3, d4, d5, rfl⟩, fun k' hk => harr k' (by simp [gotoIn, hf, hk])⟩
        | some rest =>
          simp only [hf] at h
          obtain ⟨e', a2, cs2, w2, ⟨G2, e1, e2, e3, e4, e5, e6⟩, g3⟩ := ExecOk.scope hex c m rest st1 out st' h G1 a1 cs1 w1 b k d1 d3 (h3.later d4) (Nat.le_trans h4 d2.size)
          refine ⟨e', a2, cs2, w2, ⟨G2, e1, d2.trans e2, e3, e4.trans d4, fun ho => (e5 (d4.trans ho)).trans (d5 ho), e6⟩, .of_steps (harr (.code rest :: .inScope c :: k) (by simp [gotoIn, hf])) g3⟩

theorem DfrRep.marks {r : List Dfr} {ds : List Deferred} (h : DfrRep n₀ G w P H r ds) : ∀ d ∈ ds, ∀ k, d.target = .collected k → k < w.heap.size := by
  induction r generalizing ds with
  | nil => simp only [DfrRep] at h; subst h; intro d hd; simp at hd
  | cons x r ih =>
    cases x with
    | call f args cap =>
      obtain ⟨d, ds', rfl, ⟨fv, cp, xs, h1, _⟩, h4⟩ := h
      intro d' hd k hk
      rcases List.mem_cons.1 hd with rfl | hd
      · rw [h1] at hk; cases hk
      · exact ih h4 d' hd k hk
    | mark =>
      obtain ⟨d, ds', k0, rfl, h1, _, h2, _, _, h5⟩ := h
      intro d' hd k hk
      rcases List.mem_cons.1 hd with rfl | hd
      · rw [h1] at hk
        simp only [Target.collected.injEq] at hk
        subst hk
        exact (Array.getElem?_eq_some_iff.1 h2).1
      · exact ih h5 d' hd k hk

theorem rangeFunc_sound {call : CallF} (hcall : CallOk C B call) {f : Operand} {ps : Array Tmp} {assign body : Code} {st : St} {g : FuncId} {first captured : List AV} {v : AV} {H' : AHeap}
    (hrc : st.rc = .off) (hf : evalO C st.env f = some (.func (.func g) first captured)) (hb : hasBody C.P g = true) (hc : call g (first ++ [.opq] ++ captured) st.H = some (.ret v, H')) :
    ExecOk C B n₀ c₀ cs₀ st .normal { st with H := H', dfr := .mark :: st.dfr } [.code (.rangeFunc f ps assign body)] := by
  intro G a cs w b0 k hst hrcr hfr hn0
  let b : Frame := { b0 with roundOf := none }
  have eat : ∀ (a : Act) (t : List Item), b0.at a t = b.atR a t := fun a t => rfl
  have hfv := repO hst.env hst.glob f _ hf
  simp only [Rep] at hfv
  obtain ⟨fs, cps, hfv, hfs, hcps⟩ := hfv
  -- the loop's record, its block
  obtain ⟨recd, hrecd⟩ : ∃ r : Loop, r = { state := .ready, pending := none, fn := b.fn, tmps := a.tmps, params := ps, assign, body, defers := w.heap.size } := ⟨_, rfl⟩
  have he := run_enterLoop_outer (P := C.P) (w := w) b.fn a.tmps ps assign body
  rw [← hrecd] at he
  obtain ⟨w2, hw2⟩ : ∃ w2, w2 = plus (plus w (.deferred (some []))) (.loop recd) := ⟨_, rfl⟩
  have he2 : (Instr.enterLoop b.fn a.tmps ps assign body b.roundOf).run C.P w = .ok (w.heap.size + 1, [{ target := .collected w.heap.size, args := #[] }]) w2 := by rw [hw2]; exact he
  obtain ⟨s1, x1⟩ := hst.sim.alien (.deferred (some []))
  obtain ⟨s2, x2⟩ := s1.alien (.loop recd)
  have x12 := x1.trans x2
  rw [← hw2] at s2 x2 x12
  have hsz2 : w2.heap.size = w.heap.size + 2 := by rw [hw2]; simp [plus]
  have hD : w2.heap[w.heap.size]? = some (.deferred (some [])) := by
    rw [hw2]
    show ((w.heap.push _).push _)[w.heap.size]? = _
    rw [getElem_push, if_neg (by rw [Array.size_push]; omega), getElem_push, if_pos rfl]
  have hL : w2.heap[w.heap.size + 1]? = some (.loop recd) := by
    rw [hw2]
    show ((w.heap.push _).push _)[w.heap.size + 1]? = _
    rw [getElem_push, if_pos (by rw [Array.size_push])]
  -- the call
  let y : Value := .func (.yield (w.heap.size + 1)) #[] #[]
  have hres : (resolve a.eval (rangeCall f (w.heap.size + 1)) 0).run C.P w2 = .ok { target := .fn (.func g) ⟨cps⟩, args := ⟨fs⟩ ++ #[y] } w2 := by
    have hm : Array.map a.eval #[Operand.const (.func (.yield (w.heap.size + 1)) #[] #[])] = #[.func (.yield (w.heap.size + 1)) #[] #[]] := by simp [Act.eval]
    unfold resolve rangeCall
    simp only [hfv, hm]; rfl
  have hinv : (invoke (.fn (.func g) ⟨cps⟩) (⟨fs⟩ ++ #[y])).run C.P w2 = .ok (.enter g ⟨fs ++ [y] ++ cps⟩) w2 := by
    have e : (⟨fs⟩ ++ #[y] ++ ⟨cps⟩ : Array Value) = ⟨fs ++ [y] ++ cps⟩ := by apply Array.ext'; simp
    show (callFunc g (⟨fs⟩ ++ #[y] ++ ⟨cps⟩)).run C.P w2 = _
    rw [e]; exact callFunc_body hb _ _
  have henter := stepR_rangeFunc (P := C.P) (b := b) (a := a) (k := k) (cs := cs) (w := w) he2 hres hinv
  have hle12 := x12.le hst.sim
  have hargs : RepL G w2 (first ++ [.opq] ++ captured) (fs ++ [y] ++ cps) := ((RepL.mono hle12 _ _ hfs).append (RepL.one (by simp [Rep]))).append (RepL.mono hle12 _ _ hcps)
  obtain ⟨e, w3, fr, ⟨G3, s3, x3, hend⟩, hcomes, hfn, hleave⟩ := hcall g _ st.H _ H' hc G w2 _ s2 (hst.glob.mono hle12) hargs (b.atR { a with defers := { target := .collected w.heap.size, args := #[] } :: a.defers } (.inRangeFunc (w.heap.size + 1) :: k) :: cs)
  cases e <;> simp only [EndRep] at hend
  rename_i x
  have hβ2 : ∀ l, w.heap.size ≤ l → l < w2.heap.size → ∀ i blk, H'.get i = some blk → G3.β i ≠ some l := by
    intro l hl1 hl2 i blk hi he'
    obtain ⟨i', blk', h1, h2⟩ := x3.live i blk l hi he' hl2
    have := hst.sim.small _ _ h2
    omega
  have hβ1 : ∀ l, w.heap.size ≤ l → ∀ i blk, st.H.get i = some blk → G.β i ≠ some l := by
    intro l hl1 i blk hi he'
    have := hst.sim.small _ _ he'
    omega
  have hD3 : w3.heap[w.heap.size]? = some (.deferred (some [])) := (x3.other _ (by omega) (hβ1 _ (Nat.le_refl _))).trans hD
  have hL3 : w3.heap[w.heap.size + 1]? = some (.loop recd) := (x3.other _ (by omega) (hβ1 _ (by omega))).trans hL
  have hL3lt : w.heap.size + 1 < w3.heap.size := (Array.getElem?_eq_some_iff.1 hL3).1
  have hendl := run_endLoop (P := C.P) hL3 (by rw [hrecd]; simp)
  have hN3 : G3.N = G.N := x3.N
  obtain ⟨w4, hw4⟩ : ∃ w4, w4 = w3.putObj (w.heap.size + 1) (.loop { recd with state := .exhausted }) := ⟨_, rfl⟩
  rw [← hw4] at hendl
  have hpend : recd.pending = none := by rw [hrecd]
  rw [hpend] at hendl
  have hret := step_leave_returned (c := b.atR { a with defers := { target := .collected w.heap.size, args := #[] } :: a.defers } (.inRangeFunc (w.heap.size + 1) :: k)) (cs := cs) hleave
  rw [finish_atR_inRangeFunc] at hret
  have hlast := stepR_endRangeFunc (P := C.P) (b := b) (a := { a with defers := { target := .collected w.heap.size, args := #[] } :: a.defers }) (k := k) (cs := cs) hendl
  have x123 := x12.toExt0.trans x3.toExt0
  obtain ⟨x4, s4, hle34⟩ := Ext.touch (w'' := w4) x123 s3 (by omega : w.heap.size ≤ w.heap.size + 1) (hβ2 _ (by omega) (by omega)) (by rw [hN3]; intro hh; have := hst.sim.nsmall _ hh; omega)
    (by rw [hw4]; rfl) (by rw [hw4]; rfl) (by rw [hw4]; rfl) (by rw [hw4]; simp) (fun j hj => by rw [hw4]; exact World.putObj_heap_other hj) (fun c t f hh => by rw [hL3] at hh; cases hh)
  have hle4 := x4.le hst.sim
  have hD4 : w4.heap[w.heap.size]? = some (.deferred (some [])) := by rw [hw4]; exact (World.putObj_heap_other (by omega)).trans hD3
  refine ⟨.normal, { a with defers := { target := .collected w.heap.size, args := #[] } :: a.defers }, cs, w4, ⟨G3, ⟨hst.env.mono hle4, s4, hst.glob.mono hle4, ?_⟩, ⟨x4, fun i hi hn => x3.fix i (Nat.lt_of_lt_of_le hi x12.next) hn⟩, by show RcRep c₀ cs₀ G3 w4 st.rc cs; rw [hrc]; trivial, rfl, fun _ => rfl, trivial⟩, ?_⟩
  · refine ⟨_, _, w.heap.size, rfl, rfl, hn0, hD4, hβ2 _ (Nat.le_refl _) (by omega), fun d' hd' ht => ?_, DfrRep.mono hst.sim x4 hst.dfr⟩
    have := hst.dfr.marks d' hd' _ ht
    omega
  · show Steps C.P _ _
    rw [eat, eat]
    exact .head henter (Steps.trans hcomes (.head hret (.one hlast)))

end
end Go.AX
end
section
open Go (execOp)
/- AX: a frame's code: the theorem. -/
namespace Go.AX

section
variable {C : Cfg} {P : Program} {B n₀ : Nat} {G : Ghost} {H : AHeap} {w : World} {c₀ : Frame} {cs₀ : List Frame}


theorem exec_cond (call : CallF) (n : Nat) (c : Operand) (x y : Code) (st : St) : exec C call (n + 1) (.cond c x y) st = match evalO C st.env c with
      | some (.bool t) => bif t then exec C call n x st else exec C call n y st
      | _ => none := rfl
theorem exec_seq (call : CallF) (n : Nat) (x y : Code) (st : St) : exec C call (n + 1) (.seq x y) st = match exec C call n x st with
      | some (.normal, st) => exec C call n y st
      | r => r := rfl
theorem exec_block (call : CallF) (n : Nat) (id : Nat) (b : Code) (st : St) : exec C call (n + 1) (.block id b) st = match exec C call n b st with
      | some (.exit i, st) => bif Nat.beq i id then some (.normal, st) else some (.exit i, st)
      | r => r := rfl
theorem exec_loop (call : CallF) (n : Nat) (b : Code) (st : St) : exec C call (n + 1) (.loop b) st = match exec C call n b st with
      | some (.normal, st) => exec C call n (.loop b) st
      | r => r := rfl
theorem exec_range (call : CallF) (n : Nat) (f : Operand) (ps : Array Tmp) (x y : Code) (st : St) : exec C call (n + 1) (.rangeFunc f ps x y) st = match st.rc, evalO C st.env f with
      | .off, some (.func (.func g) first captured) => bif hasBody C.P g then match call g (first ++ [.opq] ++ captured) st.H with
        | some (.ret _, H) => some (.normal, { st with H, dfr := .mark :: st.dfr })
        | _ => none
        else none
      | _, _ => none := rfl
theorem exec_region (call : CallF) (n : Nat) (id : Nat) (ops : Array Oper) (st : St) : exec C call (n + 1) (.region id ops false) st = match runOps C call ops ops.toList st with
      | none => none
      | some (.go st) => some (.normal, st)
      | some (.pan v st) => some (.pan v, st) := rfl
theorem exec_draw (call : CallF) (n : Nat) (id : Nat) (ops : Array Oper) (st : St) : exec C call (n + 1) (.region id ops true) st =
        bif !((List.range ops.size).all fun j => (drawOrder C.P ops).any (Nat.beq j)) || !(Region.noSelect ops) then none else
        match runDraw C call ops st.H.next (drawOrder C.P ops) { st with H := ⟨st.H.next + ops.size, st.H.tr⟩ } [] with
        | some (ms, st') => bif drawOk C ops (befTab ops) st.H.next ms then some (.normal, st') else none
        | none => none := rfl

theorem exec_sound {call : CallF} (hmix : C.P.follows .mixedOrders = true) (hext : ExtOk C) (hcall : CallOk C B call) : ∀ (n : Nat) (c : Code) (st : St) (out : Out) (st' : St), exec C call n c st = some (out, st') →
    ExecOk C B n₀ c₀ cs₀ st out st' [.code c] ∧ (∀ body, c = .loop body → ExecOk C B n₀ c₀ cs₀ st out st' [.code body, .inLoop body])
  | 0, c, st, out, st', h => by exact absurd (show (none : Option (Out × St)) = _ from h) (by simp)
  | n + 1, c, st, out, st', h => by
    have ih := exec_sound hmix hext hcall n
    cases c with
    | skip =>
      have h : some (_, st) = some (out, st') := h
      simp only [Option.some.injEq, Prod.mk.injEq] at h
      obtain ⟨rfl, rfl⟩ := h
      exact ⟨ExecOk.stay (e := .normal) (fun _ _ => trivial) fun b a k cs w => .one step_skip, by intro _ e; cases e⟩
    | label l =>
      have h : some (_, st) = some (out, st') := h
      simp only [Option.some.injEq, Prod.mk.injEq] at h
      obtain ⟨rfl, rfl⟩ := h
      exact ⟨ExecOk.stay (e := .normal) (fun _ _ => trivial) fun b a k cs w => .one step_label, by intro _ e; cases e⟩
    | exit id =>
      have h : some (_, st) = some (out, st') := h
      simp only [Option.some.injEq, Prod.mk.injEq] at h
      obtain ⟨rfl, rfl⟩ := h
      exact ⟨ExecOk.stay (e := .exit id) (fun _ _ => rfl) fun b a k cs w => fun k' hk => .one (step_exit hk), by intro _ e; cases e⟩
    | ret =>
      have h : some (_, st) = some (out, st') := h
      simp only [Option.some.injEq, Prod.mk.injEq] at h
      obtain ⟨rfl, rfl⟩ := h
      exact ⟨ExecOk.stay (e := .ret) (fun _ _ => trivial) fun b a k cs w => ⟨_, .one step_ret⟩, by intro _ e; cases e⟩
    | goto l =>
      have h : some (_, st) = some (out, st') := h
      simp only [Option.some.injEq, Prod.mk.injEq] at h
      obtain ⟨rfl, rfl⟩ := h
      exact ⟨ExecOk.stay (e := .goto l) (fun _ _ => rfl) fun b a k cs w => fun k' hk => .one (step_goto hk), by intro _ e; cases e⟩
    | scope c =>
      have h : scopeRun (exec C call n) n c c st = some (out, st') := h
      exact ⟨ExecOk.step (f2 := [.code c, .inScope c]) (fun b a k cs w => step_scope) (ExecOk.scope (fun c st out st' h => (ih c st out st' h).1) c n c st out st' h), by intro _ e; cases e⟩
    | refuse c => exact absurd (show (none : Option (Out × St)) = _ from h) (by simp)
    | cond c x y =>
      refine ⟨?_, by intro _ e; cases e⟩
      rw [exec_cond] at h
      cases hc : evalO C st.env c with
      | none => rw [hc] at h; simp at h
      | some v =>
        rw [hc] at h
        cases v <;> simp only at h <;> try contradiction
        rename_i t
        intro G a cs w b k h1 h2 h3 h4
        have hev := repO h1.env h1.glob c _ hc
        simp only [Rep] at hev
        have hh : exec C call n (if t then x else y) st = some (out, st') := by cases t <;> simpa using h
        obtain ⟨e, a', cs', w', g1, g2⟩ := (ih _ st out st' hh).1 G a cs w b k h1 h2 h3 h4
        exact ⟨e, a', cs', w', g1, .of_steps (.one (step_cond hev)) g2⟩
    | seq x y =>
      refine ⟨?_, by intro _ e; cases e⟩
      rw [exec_seq] at h
      refine ExecOk.step (f2 := [.code x, .code y]) (fun b a k cs w => step_seq) ?_
      cases hx : exec C call n x st with
      | none => rw [hx] at h; simp at h
      | some r =>
        obtain ⟨o1, st1⟩ := r
        rw [hx] at h
        cases o1 with
        | normal => exact ((ih x st _ _ hx).1).seq (ih y st1 _ _ h).1
        | _ =>
          simp only [Option.some.injEq, Prod.mk.injEq] at h
          obtain ⟨rfl, rfl⟩ := h
          exact ((ih x st _ _ hx).1).pass rfl (fun G w e he hn => by subst hn; exact he)
    | block id b =>
      refine ⟨?_, by intro _ e; cases e⟩
      rw [exec_block] at h
      cases hx : exec C call n b st with
      | none => rw [hx] at h; simp at h
      | some r =>
        obtain ⟨o1, st1⟩ := r
        rw [hx] at h
        cases o1 with
        | exit i =>
          simp only [nbeq] at h
          by_cases e : i = id
          · simp only [e, decide_true, cond_true, Option.some.injEq, Prod.mk.injEq] at h
            obtain ⟨rfl, rfl⟩ := h
            exact ((ih b st _ _ hx).1).block (by simp [e])
          · simp only [e, decide_false, cond_false, Option.some.injEq, Prod.mk.injEq] at h
            obtain ⟨rfl, rfl⟩ := h
            exact ((ih b st _ _ hx).1).block (by simp [e])
        | _ =>
          simp only [Option.some.injEq, Prod.mk.injEq] at h
          obtain ⟨rfl, rfl⟩ := h
          exact ((ih b st _ _ hx).1).block rfl
    | loop b =>
      have inner : ExecOk C B n₀ c₀ cs₀ st out st' [.code b, .inLoop b] := by
        rw [exec_loop] at h
        cases hx : exec C call n b st with
        | none => rw [hx] at h; simp at h
        | some r =>
          obtain ⟨o1, st1⟩ := r
          rw [hx] at h
          cases o1 with
          | normal => exact ((ih b st _ _ hx).1).seq (ExecOk.step (f2 := [.code b, .inLoop b]) (fun b a k cs w => step_inLoop) ((ih _ st1 _ _ h).2 b rfl))
          | _ =>
            simp only [Option.some.injEq, Prod.mk.injEq] at h
            obtain ⟨rfl, rfl⟩ := h
            exact ((ih b st _ _ hx).1).pass rfl (fun G w e he hn => by subst hn; exact he)
      refine ⟨ExecOk.step (f2 := [.code b, .inLoop b]) (fun b a k cs w => step_loop) inner, fun body e => ?_⟩
      simp only [Code.loop.injEq] at e
      subst e
      exact inner
    | rangeFunc f ps assign body =>
      refine ⟨?_, by intro _ e; cases e⟩
      rw [exec_range] at h
      split at h <;> try contradiction
      rename_i g first captured hrc hf
      obtain ⟨hb, h⟩ := cond_some h
      split at h <;> try contradiction
      rename_i v H' hc
      simp only [Option.some.injEq, Prod.mk.injEq] at h
      obtain ⟨rfl, rfl⟩ := h
      exact rangeFunc_sound hcall hrc hf hb hc
    | region id ops draw =>
      refine ⟨?_, by intro _ e; cases e⟩
      intro G a cs w b k h1 h2 h3 h4
      cases draw with
      | true =>
        rw [exec_draw] at h
        obtain ⟨hc, h⟩ := cond_none h
        simp only [Bool.or_eq_false_iff, Bool.not_eq_false'] at hc
        split at h <;> try contradiction
        rename_i ms st1 hr
        obtain ⟨hd, h⟩ := cond_some h
        simp only [Option.some.injEq, Prod.mk.injEq] at h
        obtain ⟨rfl, rfl⟩ := h
        obtain ⟨e, a', w', ⟨rfl, G', e1, e2, e3⟩, harr⟩ := wp_region_any (id := id) hmix (draw_sound hext hcall hc.1 hc.2 hr hd h1) b k cs
        exact ⟨.normal, a', cs, w', ⟨G', e1, e2, by rw [e3]; exact h2.mono (e2.le h1.sim), by rw [e3], fun _ => rfl, trivial⟩, harr⟩
      | false =>
        rw [exec_region] at h
        cases hr : runOps C call ops ops.toList st with
        | none => rw [hr] at h; simp at h
        | some r =>
          rw [hr] at h
          have hrange : List.range ops.size = List.range' 0 ops.toList.length := by simp [List.range_eq_range']
          cases hoff : st.rc.isOff with
          | true =>
            have hrc := Rc.off_of hoff
            have hops := ops_sound (n₀ := n₀) (Q := fun e a' w' => Went C B n₀ c₀ cs₀ G st w cs out st' e a' cs w') hext hcall ops.toList 0 st r a G w rfl hr h1 hrc
              (fun st1 a' w' e hl => by
                subst e
                simp only [Option.some.injEq, Prod.mk.injEq] at h
                obtain ⟨rfl, rfl⟩ := h
                obtain ⟨G', e1, e2, e3⟩ := hl
                exact ⟨G', e1, e2, by rw [e3]; exact h2.mono (e2.le h1.sim), by rw [e3], fun _ => rfl, trivial⟩)
              (fun v st1 x a' w' e hl => by
                subst e
                simp only [Option.some.injEq, Prod.mk.injEq] at h
                obtain ⟨rfl, rfl⟩ := h
                obtain ⟨G', e1, e2, e3, e4⟩ := hl
                exact ⟨G', e1, e2, by rw [e3]; exact h2.mono (e2.le h1.sim), by rw [e3], fun _ => rfl, ⟨x, rfl, e4⟩⟩)
            obtain ⟨e, a', w', g1, g2⟩ := wp_region (id := id) (by rw [hrange]; exact hops) b k cs
            exact ⟨e, a', cs, w', g1, g2⟩
          | false =>
            obtain ⟨hb, hro⟩ : b.kind = .deferred ∧ b.roundOf = none := by
              rcases h3 with h3 | h3
              · rw [hoff] at h3; cases h3
              · exact h3
            have hops := opsS_sound (n₀ := n₀) (Q := fun e a' cs' w' => Went C B n₀ c₀ cs₀ G st w cs out st' e a' cs' w') hext hcall ops.toList 0 st r a G w cs rfl hr h1 h2 hoff
              (fun st1 a' cs' w' e hl => by
                subst e
                simp only [Option.some.injEq, Prod.mk.injEq] at h
                obtain ⟨rfl, rfl⟩ := h
                obtain ⟨G', e1, e2, e3, e4⟩ := hl
                exact ⟨G', e1, e2, e3, e4.trans hoff.symm, fun ho => by rw [hoff] at ho; (cases ho), trivial⟩)
              (fun v st1 x a' cs' w' e hl => by
                subst e
                simp only [Option.some.injEq, Prod.mk.injEq] at h
                obtain ⟨rfl, rfl⟩ := h
                obtain ⟨G', e1, e2, e3, e4, e5⟩ := hl
                exact ⟨G', e1, e2, e3, e4.trans hoff.symm, fun ho => by rw [hoff] at ho; (cases ho), ⟨x, rfl, e5⟩⟩)
            obtain ⟨e, a', cs', w', g1, g2⟩ := wpS_region (id := id) (by rw [hrange]; exact hops) b k hb hro
            exact ⟨e, a', cs', w', g1, g2⟩
end
end Go.AX
end
section
open Go (execOp)
/- AX: calls. -/
namespace Go.AX

section
variable {C : Cfg} {P : Program} {B n₀ : Nat} {G : Ghost} {H : AHeap} {w : World} {c₀ : Frame} {cs₀ : List Frame}

theorem asAddr_of_loadAt {t : TypeId} {x z : Value} (h : (Instr.loadAt t x).run P w = .ok z w) : (do loadVar t (← Go.asAddr x) : Sem Value).run P w = .ok z w := by
  cases x with
  | pointer q => cases q with
    | none => exact absurd h (by simp [Instr.loadAt, Instr.sureAddr, stuck])
    | some a => exact h
  | _ => exact absurd h (by simp [Instr.loadAt, Instr.sureAddr, stuck])

theorem results_list {st : St} {tmps : Array Value} (hs : Sim B G st.H w) (he : EnvRep G w st.env st.size tmps) : ∀ {rs : List ResultVar} {vs : List AV}, resultsA P st rs = some vs →
    ∃ xs : List Value, (rs.mapM (fun | .tmp t => pure (tmps.getD t undef) | .cell a t => do loadVar t (← Go.asAddr (tmps.getD a undef)) : ResultVar → Sem Value)).run P w = .ok xs w ∧ RepL G w vs xs
  | [], vs, h => by
    simp only [resultsA, Option.some.injEq] at h; subst h
    exact ⟨[], rfl, by simp [RepL]⟩
  | .tmp t :: rs, vs, h => by
    simp only [resultsA] at h
    cases hv : st.env.get t with
    | none => rw [hv] at h; simp at h
    | some v =>
      rw [hv] at h
      cases hr : resultsA P st rs with
      | none => rw [hr] at h; simp at h
      | some us =>
        rw [hr] at h
        simp only [Option.some.injEq] at h; subst h
        obtain ⟨xs, h1, h2⟩ := results_list hs he hr
        obtain ⟨x, hx, hrx⟩ := he.get t v hv
        have hd : tmps.getD t undef = x := by simp [hx]
        refine ⟨x :: xs, ?_, ?_⟩
        · rw [List.mapM_cons, run_bind_ok (a := x) (w' := w) (by show (pure (tmps.getD t undef) : Sem Value).run P w = _; rw [hd]; rfl), run_bind_ok h1]; rfl
        · simp only [RepL]; exact ⟨x, xs, rfl, hrx, h2⟩
  | .cell a t :: rs, vs, h => by
    simp only [resultsA] at h
    cases hv : (st.env.get a).bind (loadAt P st.H t) with
    | none => rw [hv] at h; simp at h
    | some v =>
      rw [hv] at h
      cases hr : resultsA P st rs with
      | none => rw [hr] at h; simp at h
      | some us =>
        rw [hr] at h
        simp only [Option.some.injEq] at h; subst h
        obtain ⟨xs, h1, h2⟩ := results_list hs he hr
        obtain ⟨p, hp, hl⟩ := bind_some hv
        obtain ⟨y, hy, hry⟩ := he.get a p hp
        obtain ⟨x, hx, hrx⟩ := loadAt_sound hs hl hry
        have hd : tmps.getD a undef = y := by simp [hy]
        refine ⟨x :: xs, ?_, ?_⟩
        · rw [List.mapM_cons, run_bind_ok (a := x) (w' := w) (by show (do loadVar t (← Go.asAddr (tmps.getD a undef)) : Sem Value).run P w = _; rw [hd]; exact asAddr_of_loadAt hx), run_bind_ok h1]; rfl
        · simp only [RepL]; exact ⟨x, xs, rfl, hrx, h2⟩

theorem result_sound {st : St} {tmps : Array Value} {fn : Func} {v : AV} (hs : Sim B G st.H w) (he : EnvRep G w st.env st.size tmps) (h : resultA P st fn = some v) :
    ∃ x, (results fn tmps).run P w = .ok x w ∧ Rep G w v x := by
  unfold resultA at h
  cases hr : resultsA P st fn.results.toList with
  | none => rw [hr] at h; simp at h
  | some vs =>
    rw [hr] at h
    obtain ⟨xs, h1, h2⟩ := results_list hs he hr
    have hl := h2.length
    refine ⟨if h : xs.toArray.size = 1 then xs.toArray[0] else .tuple xs.toArray, ?_, ?_⟩
    · unfold results
      rw [Array.mapM_eq_mapM_toList]
      rw [run_bind_ok (a := xs.toArray) (w' := w)]
      · rfl
      · rw [map_eq_pure_bind, run_bind_ok (a := xs) (w' := w)]
        · rfl
        · exact h1
    · match vs, h, h2, hl with
      | [], h, h2, hl =>
        simp only [Option.some.injEq] at h; subst h
        simp only [RepL] at h2; subst h2
        simp [Rep, RepL]
      | [u], h, h2, hl =>
        simp only [Option.some.injEq] at h; subst h
        simp only [RepL] at h2
        obtain ⟨x, ys, rfl, hx, rfl⟩ := h2
        simpa using hx
      | u :: u' :: us, h, h2, hl =>
        simp only [Option.some.injEq] at h; subst h
        simp only [List.length_cons] at hl
        rw [dif_neg (by simp; omega)]
        simp only [Rep]
        exact ⟨xs, rfl, h2⟩

theorem get_ofArgs : ∀ (args : List AV) (env : Env) (i t : Nat), (ofArgs env i args).get t = if i ≤ t ∧ t < i + args.length then args[t - i]? else env.get t
  | [], env, i, t => by simp [ofArgs]; omega
  | v :: vs, env, i, t => by
    simp only [ofArgs, get_ofArgs vs, Tr.get_set, List.length_cons]
    by_cases h1 : i + 1 ≤ t ∧ t < i + 1 + vs.length
    · rw [if_pos h1, if_pos (by omega), show t - i = (t - (i + 1)) + 1 by omega]; simp
    · rw [if_neg h1]
      by_cases h2 : t = i
      · subst h2; rw [if_pos rfl, if_pos (by omega)]; simp
      · rw [if_neg h2, if_neg (by omega)]

theorem args_env {args : List AV} {xs : List Value} (h : RepL G w args xs) (n : Nat) :
    EnvRep G w (ofArgs .leaf 0 args) (Nat.max args.length n) ((⟨xs⟩ : Array Value) ++ Array.replicate (n - (⟨xs⟩ : Array Value).size) undef) := by
  have hl := h.length
  refine ⟨?_, fun t v ht => ?_⟩
  · simp only [Array.size_append, Array.size_replicate]
    show xs.length + (n - xs.length) = _
    rw [hl]
    show _ = max _ _
    omega
  · rw [get_ofArgs] at ht
    by_cases c : 0 ≤ t ∧ t < 0 + args.length
    · rw [if_pos c] at ht
      obtain ⟨x, hx, hr⟩ := h.get ht
      refine ⟨x, ?_, hr⟩
      rw [Array.getElem?_append_left (by show t < xs.length; omega)]
      simpa using hx
    · rw [if_neg c, Tr.get_leaf] at ht; cases ht

/-- the panic that goes on -/
def ModeRep (G : Ghost) (w : World) : Option AV → FrameMode → Prop
  | none, u => u = .returning
  | some v, u => ∃ x, u = .panicking [{ v := x, recovered := false }] ∧ Rep G w v x

theorem ModeRep.mono {G' : Ghost} {w' : World} (hle : Le G w G' w') {p : Option AV} {u : FrameMode} (h : ModeRep G w p u) : ModeRep G' w' p u := by
  cases p with
  | none => exact h
  | some v => obtain ⟨x, h1, h2⟩ := h; exact ⟨x, h1, Rep.mono hle _ _ h2⟩

theorem ModeRep.notRun {p : Option AV} {u : FrameMode} (h : ModeRep G w p u) : u ≠ .run := by
  cases p with
  | none =>
    have h : u = .returning := h
    rw [h]; intro e; cases e
  | some v =>
    obtain ⟨x, h, _⟩ := h
    rw [h]; intro e; cases e

theorem DfrRep.touch {w' : World} {k : Nat} (hle : Le G w G w') (hsame : ∀ j, j ≠ k → w'.heap[j]? = w.heap[j]?) : ∀ {r : List Dfr} {ds : List Deferred}, (∀ d ∈ ds, d.target ≠ .collected k) → DfrRep n₀ G w P H r ds → DfrRep n₀ G w' P H r ds
  | [], ds, _, h => h
  | .call f args cap :: r, ds, hne, h => by
    obtain ⟨d, ds', rfl, ⟨fv, cp, xs, h1, h2, h3⟩, h4⟩ := h
    exact ⟨d, ds', rfl, ⟨fv, cp, xs, h1, h2, RepL.mono hle _ _ h3⟩, DfrRep.touch hle hsame (fun d hd => hne d (List.mem_cons_of_mem _ hd)) h4⟩
  | .mark :: r, ds, hne, h => by
    obtain ⟨d, ds', k', rfl, h1, h0, h2, h3, h4, h5⟩ := h
    have : k' ≠ k := fun e => hne d List.mem_cons_self (e ▸ h1)
    exact ⟨d, ds', k', rfl, h1, h0, (hsame k' this).trans h2, h3, h4, DfrRep.touch hle hsame (fun d hd => hne d (List.mem_cons_of_mem _ hd)) h5⟩

/-- what 'recover' finds, at the start of a deferred call -/
def rcOf : Option AV → Rc
  | none => .nil
  | some v => .val v

/-- a deferred call's body -/
theorem deferred_sound {call : CallF} (hmix : C.P.follows .mixedOrders = true) (hext : ExtOk C) (hcall : CallOk C B call) {fuel : Nat} {f : FuncId} {args : List AV} {xs : List Value} {p : Option AV} {g : Func} {out : Out} {st' : St} {u : FrameMode} {v : AV}
    (h : bodyRun C call fuel f args H (rcOf p) = some (g, out, st')) (hout : out = .normal ∨ out = .ret) (hd : st'.dfr = []) (hv : resultA C.P st' g = some v)
    (hs : Sim B G H w) (hg : GlobOk C G w) (ha : RepL G w args xs) (hm : ModeRep G w p u) :
    CallsD C.P f ⟨xs⟩ u w fun e u' w' => (∃ x, e = .returned x) ∧ ∃ G', Sim B G' st'.H w' ∧ Ext B H G w st'.H G' w' ∧ ModeRep G' w' (match st'.rc with | .val v => some v | _ => none) (settle u') := by
  unfold bodyRun at h
  cases hf : C.P.funcs[f]? with
  | none => rw [hf] at h; simp at h
  | some fn =>
    rw [hf] at h
    simp only at h
    cases hb : fn.body with
    | none => rw [hb] at h; simp at h
    | some c =>
      rw [hb] at h
      obtain ⟨⟨o1, st1⟩, hex, h⟩ := map_some h
      simp only [Prod.mk.injEq] at h
      obtain ⟨rfl, h2, h3⟩ := h
      rw [h2, h3] at hex
      refine callsD_of_wpS hf hb fun c₀ cs hc0 => ?_
      intro b k hbk hbr
      have hoff : (rcOf p).isOff = false := by cases p <;> rfl
      have hc0' : c₀ = { c₀ with mode := u } := by subst hc0; rfl
      have hrc : RcRep c₀ cs G w (rcOf p) (c₀ :: cs) := by
        cases p with
        | none => exact ⟨u, by rw [← hc0'], .inl hm⟩
        | some v =>
          obtain ⟨x, rfl, hx⟩ := hm
          exact ⟨x, by rw [← hc0'], hx⟩
      obtain ⟨e, a', cs', w', ⟨G', e1, e2, e3, e4, e5, e6⟩, harr⟩ := (exec_sound (n₀ := 0) (c₀ := c₀) (cs₀ := cs) hmix hext hcall fuel c _ _ _ hex).1 G
        { tmps := (⟨xs⟩ : Array Value) ++ Array.replicate (fn.ntmps - (⟨xs⟩ : Array Value).size) undef, defers := [] } (c₀ :: cs) w b k ⟨args_env ha fn.ntmps, hs, hg, rfl⟩ hrc (.inr ⟨hbk, hbr⟩) (Nat.zero_le _)
      refine ⟨e, a', cs', w', ?_, harr⟩
      have hdef : a'.defers = [] := by
        have := e1.dfr
        rw [hd] at this
        exact this
      obtain ⟨x, hx, hrx⟩ := result_sound e1.sim e1.env hv
      have hoff' : st'.rc.isOff = false := e4.trans hoff
      have fin : ∃ u', cs' = { c₀ with mode := u' } :: cs ∧ ModeRep G' w' (match st'.rc with | .val v => some v | _ => none) (settle u') := by
        cases hr : st'.rc with
        | off => rw [hr] at hoff'; simp [Rc.isOff] at hoff'
        | nil =>
          rw [hr] at e3
          obtain ⟨u', h1, h2⟩ := e3
          refine ⟨u', h1, ?_⟩
          have : settle u' = .returning := by rcases h2 with rfl | ⟨y, rfl⟩ <;> rfl
          exact this
        | val v' =>
          rw [hr] at e3
          obtain ⟨y, h1, h2⟩ := e3
          exact ⟨_, h1, y, rfl, h2⟩
      obtain ⟨u', hcs, hmode⟩ := fin
      have main : a'.defers = [] ∧ ∃ u', cs' = { c₀ with mode := u' } :: cs ∧ ∃ v, (results fn a'.tmps).run C.P w' = .ok v w' ∧ (∃ x, Ending.returned v = .returned x) ∧ ∃ G', Sim B G' st'.H w' ∧ Ext B H G w st'.H G' w' ∧ ModeRep G' w' (match st'.rc with | .val v => some v | _ => none) (settle u') :=
        ⟨hdef, u', hcs, x, hx, ⟨x, rfl⟩, G', e1.sim, e2, hmode⟩
      rcases hout with rfl | rfl
      · cases e <;> simp only [OutRep] at e6
        exact main
      · cases e <;> simp only [OutRep] at e6
        exact main

theorem leave_mark (call : CallF) (fuel : Nat) (fn : Func) (st : St) (ds : List Dfr) (H : AHeap) (p : Option AV) : leave C call fuel fn st (.mark :: ds) H p = leave C call fuel fn st ds H p := by rw [leave]
theorem leave_call (call : CallF) (fuel : Nat) (fn : Func) (st : St) (f : FuncId) (args cap : List AV) (ds : List Dfr) (H : AHeap) (p : Option AV) : leave C call fuel fn st (.call f args cap :: ds) H p =
    match bodyRun C call fuel f (args ++ cap) H (rcOf p) with
    | some (g, .normal, st') | some (g, .ret, st') => match st'.dfr, resultA C.P st' g with
      | [], some _ => leave C call fuel fn st ds st'.H (match st'.rc with | .val v => some v | _ => none)
      | _, _ => none
    | _ => none := by
  cases p <;> rfl

/-- A frame on its way out. -/
theorem leave_sound {call : CallF} (hmix : C.P.follows .mixedOrders = true) (hext : ExtOk C) (hcall : CallOk C B call) {fuel : Nat} {fn : Func} {st : St} {H0 : AHeap} {G0 : Ghost} {w0 : World} (hs0 : Sim B G0 H0 w0) :
    ∀ (ds : List Dfr) (H : AHeap) (p : Option AV) (r : AEnd) (H' : AHeap), leave C call fuel fn st ds H p = some (r, H') → ∀ (G : Ghost) (w : World) (fr : Frame) (cs : List Frame),
    Sim B G H w → Ext B H0 G0 w0 H G w → GlobOk C G w → EnvRep G w st.env st.size fr.tmps → DfrRep w0.heap.size G w C.P H ds fr.defers → ModeRep G w p fr.mode → C.P.funcs[fr.fn]? = some fn → fr.kind = .normal →
    ∃ e w' fr', (∃ G', Sim B G' H' w' ∧ Ext B H0 G0 w0 H' G' w' ∧ EndRep G' w' r e) ∧ Comes C.P (lone fr cs w) (lone fr' cs w') e ∧ fr'.fn = fr.fn ∧ fr'.leaving C.P w' e
  | [], H, p, r, H', h, G, w, fr, cs, hs, he, hg, henv, hd, hm, hf, hk => by
    have hd0 : fr.defers = [] := hd
    cases p with
    | none =>
      simp only [leave] at h
      obtain ⟨v, hv, h⟩ := map_some h
      simp only [Prod.mk.injEq] at h
      obtain ⟨rfl, rfl⟩ := h
      obtain ⟨x, hx, hr⟩ := result_sound (st := { st with H := H }) hs henv hv
      exact ⟨.returned x, w, fr, ⟨G, hs, he, hr⟩, Steps.refl _ _, rfl, hm, hd0, hk, fn, hf, hx⟩
    | some v =>
      simp only [leave, Option.some.injEq, Prod.mk.injEq] at h
      obtain ⟨rfl, rfl⟩ := h
      obtain ⟨x, hu, hx⟩ := hm
      exact ⟨.panicked _, w, fr, ⟨G, hs, he, ⟨x, rfl, hx⟩⟩, Steps.refl _ _, rfl, hu, hd0, fn, hf⟩
  | .mark :: ds, H, p, r, H', h, G, w, fr, cs, hs, he, hg, henv, hd, hm, hf, hk => by
    rw [leave_mark] at h
    obtain ⟨d, ds', k, hds, h1, hn, h2, h3, h4, h5⟩ := hd
    have hrun : fr.mode ≠ .run := hm.notRun
    have hstep := step_collected (P := C.P) (cs := cs) hrun hds h1 (run_takeDeferred (P := C.P) h2)
    have hklt : k < w.heap.size := (Array.getElem?_eq_some_iff.1 h2).1
    obtain ⟨g1, g2, g3⟩ := Ext.touch (w'' := w.putObj k (.deferred none)) he.toExt0 hs hn h3 (by rw [he.N]; intro hh; have := hs0.nsmall _ hh; omega) rfl rfl rfl (by simp) (fun j hj => World.putObj_heap_other hj) (fun c t f hh => by rw [h2] at hh; cases hh)
    obtain ⟨e, w', fr', hw, hc, hfn, hl⟩ := leave_sound hmix hext hcall hs0 ds H p r H' h G _ { fr with defers := [] ++ ds' } cs g2 ⟨g1, he.fix⟩ (hg.mono g3) (henv.mono g3) (DfrRep.touch g3 (fun j hj => World.putObj_heap_other hj) h4 h5) (hm.mono g3) hf hk
    exact ⟨e, w', fr', hw, Comes.of_steps (.one hstep) hc, hfn, hl⟩
  | .call f args cap :: ds, H, p, r, H', h, G, w, fr, cs, hs, he, hg, henv, hd, hm, hf, hk => by
    rw [leave_call] at h
    obtain ⟨d, ds', hds, ⟨fv, cp, xs, h1, h2, h3⟩, h4⟩ := hd
    have hrun : fr.mode ≠ .run := hm.notRun
    have hstep := step_defer (P := C.P) (cs := cs) hrun hds h1 (h2 w)
    have main : ∀ {g : Func} {out : Out} {st' : St}, bodyRun C call fuel f (args ++ cap) H (rcOf p) = some (g, out, st') → (out = .normal ∨ out = .ret) →
        (match st'.dfr, resultA C.P st' g with
          | [], some _ => leave C call fuel fn st ds st'.H (match st'.rc with | .val v => some v | _ => none)
          | _, _ => none) = some (r, H') →
        ∃ e w' fr', (∃ G', Sim B G' H' w' ∧ Ext B H0 G0 w0 H' G' w' ∧ EndRep G' w' r e) ∧ Comes C.P (lone fr cs w) (lone fr' cs w') e ∧ fr'.fn = fr.fn ∧ fr'.leaving C.P w' e := by
      intro g out st' hb ho h
      split at h <;> try contradiction
      rename_i v hdf hres
      have hcd := deferred_sound hmix hext hcall hb ho hdf hres hs hg h3 hm
      obtain ⟨e, u', w1, frX, ⟨⟨x, rfl⟩, G1, s1, x1, m1⟩, hcomes, hkX, hgo⟩ := hcd { fr with defers := ds' } cs rfl
      have h6 := step_going_returned (P := C.P) (c := { { fr with defers := ds' } with mode := u' }) (cs := cs) hkX hgo
      have hle := x1.le hs
      obtain ⟨e', w', fr', hw, hc, hfn, hl⟩ := leave_sound hmix hext hcall hs0 ds st'.H _ r H' h G1 w1 { { { fr with defers := ds' } with mode := u' } with mode := settle u' } cs s1 (he.trans x1) (hg.mono hle) (henv.mono hle) (DfrRep.mono hs x1.toExt0 h4) m1 hf hk
      exact ⟨e', w', fr', hw, Comes.of_steps (.head hstep (Steps.trans hcomes (.one h6))) hc, hfn, hl⟩
    split at h <;> try contradiction
    · rename_i g st' hb; exact main hb (.inl rfl) h
    · rename_i g st' hb; exact main hb (.inr rfl) h

theorem enter_sound {call : CallF} (hmix : C.P.follows .mixedOrders = true) (hext : ExtOk C) (hcall : CallOk C B call) (fuel : Nat) : CallOk C B (enter C call fuel) := by
  intro f args H r H' h G w xs hs hg ha
  unfold enter at h
  have main : ∀ {fn : Func} {out : Out} {st : St} {p : Option AV}, bodyRun C call fuel f args H .off = some (fn, out, st) → (∀ e G w, OutRep G w out e → (p = none ∧ (e = .normal ∨ e = .ret)) ∨ (∃ v x, p = some v ∧ e = .panic [{ v := x, recovered := false }] ∧ Rep G w v x)) →
      leave C call fuel fn st st.dfr st.H p = some (r, H') → Calls C.P f ⟨xs⟩ w fun e w' => ∃ G', Sim B G' H' w' ∧ Ext B H G w H' G' w' ∧ EndRep G' w' r e := by
    intro fn out st p hb hp hl
    unfold bodyRun at hb
    cases hf : C.P.funcs[f]? with
    | none => rw [hf] at hb; simp at hb
    | some fn0 =>
      rw [hf] at hb
      simp only at hb
      cases hbd : fn0.body with
      | none => rw [hbd] at hb; simp at hb
      | some c =>
        rw [hbd] at hb
        obtain ⟨⟨o1, st1⟩, hex, hb⟩ := map_some hb
        simp only [Prod.mk.injEq] at hb
        obtain ⟨rfl, h2, h3⟩ := hb
        rw [h2, h3] at hex
        intro cs
        let b : Frame := { (default : Frame) with fn := f, kind := .normal }
        have henter : Frame.enter C.P f ⟨xs⟩ .normal = b.at { tmps := (⟨xs⟩ : Array Value) ++ Array.replicate (fn0.ntmps - (⟨xs⟩ : Array Value).size) undef, defers := [] } ([.code c] ++ []) := by
          simp [Frame.enter, Frame.at, hf, hbd, b]
        obtain ⟨e, a', cs', w1, ⟨G1, e1, e2, e3, e4, e5, e6⟩, harr⟩ := (exec_sound (n₀ := w.heap.size) (c₀ := default) (cs₀ := []) hmix hext hcall fuel c _ _ _ hex).1 G
          { tmps := (⟨xs⟩ : Array Value) ++ Array.replicate (fn0.ntmps - (⟨xs⟩ : Array Value).size) undef, defers := [] } cs w b [] ⟨args_env ha fn0.ntmps, hs, hg, rfl⟩ trivial (.inl rfl) (Nat.le_refl _)
        have hcs : cs' = cs := e5 rfl
        subst hcs
        rw [← henter] at harr
        have out : ∀ (fr : Frame), fr.tmps = a'.tmps → fr.defers = a'.defers → fr.fn = f → fr.kind = .normal → ModeRep G1 w1 p fr.mode → Steps C.P (lone (Frame.enter C.P f ⟨xs⟩ .normal) cs' w) (lone fr cs' w1) →
            ∃ e w' fr', (∃ G', Sim B G' H' w' ∧ Ext B H G w H' G' w' ∧ EndRep G' w' r e) ∧ Comes C.P (lone (Frame.enter C.P f ⟨xs⟩ .normal) cs' w) (lone fr' cs' w') e ∧ fr'.fn = f ∧ fr'.leaving C.P w' e := by
          intro fr ht hdd hfn hk hm hst
          obtain ⟨e', w', fr', hw, hc, hfn', hl'⟩ := leave_sound hmix hext hcall hs st.dfr st.H p r H' hl G1 w1 fr cs' e1.sim e2 e1.glob (ht ▸ e1.env) (hdd ▸ e1.dfr) hm (hfn ▸ hf) hk
          exact ⟨e', w', fr', hw, Comes.of_steps hst hc, hfn'.trans hfn, hl'⟩
        rcases hp e G1 w1 e6 with ⟨rfl, rfl | rfl⟩ | ⟨v, x, rfl, rfl, hx⟩
        · exact out { b.at a' [] with mode := .returning } rfl rfl rfl rfl (show ModeRep G1 w1 none .returning from rfl) (Steps.trans harr (.one step_end))
        · obtain ⟨todo, hst⟩ := harr
          exact out { b.at a' todo with mode := .returning } rfl rfl rfl rfl (show ModeRep G1 w1 none .returning from rfl) hst
        · obtain ⟨todo, hst⟩ := harr
          exact out { b.at a' todo with mode := .panicking [{ v := x, recovered := false }] } rfl rfl rfl rfl ⟨x, rfl, hx⟩ hst
  split at h <;> try contradiction
  · rename_i fn st hb
    exact main hb (fun e G w he => by cases e <;> simp only [OutRep] at he; exact .inl ⟨rfl, .inl rfl⟩) h
  · rename_i fn st hb
    exact main hb (fun e G w he => by cases e <;> simp only [OutRep] at he; exact .inl ⟨rfl, .inr rfl⟩) h
  · rename_i fn v st hb
    exact main hb (fun e G w he => by
      cases e <;> simp only [OutRep] at he
      obtain ⟨x, rfl, hx⟩ := he
      exact .inr ⟨v, x, rfl, rfl, hx⟩) h

/-- **What the executor says of a call, the model does.** -/
theorem callF_sound {prims : CallF} (hmix : C.P.follows .mixedOrders = true) (hext : ExtOk C) (hprims : CallOk C B prims) (fuel : Nat) : ∀ n, CallOk C B (callF C prims fuel n)
  | 0 => by intro f args H r H' h; simp [callF] at h
  | n + 1 => by
    intro f args H r H' h G w xs hs hg ha
    rw [callF] at h
    cases hp : prims f args H with
    | some r0 => rw [hp] at h; simp only [Option.some.injEq] at h; subst h; exact hprims f args H r H' hp G w xs hs hg ha
    | none => rw [hp] at h; exact enter_sound hmix hext (callF_sound hmix hext hprims fuel n) fuel f args H r H' h G w xs hs hg ha
end
end Go.AX
end
section
open Go (execOp)
/- AX: from what the executor says to a law's row. -/
namespace Go.AX
section
variable {C : Cfg} {P : Program} {B : Nat} {G : Ghost} {w : World}

theorem oneV_of_cell {r : Reach} {base : Nat} {t : TypeId} {v : Value} (h : Cell.okWide P w r base t v) : oneV v = true := by
  cases v <;> first
    | rfl
    | (exfalso
       unfold Cell.okWide at h
       split at h <;> first
         | contradiction
         | (unfold Cell.ok at h; split at h <;> first | contradiction | exact h)
         | simp_all)

theorem repL_ones : ∀ (cs : List Value), (∀ c ∈ cs, oneV c = true) → RepL G w (repeatL cs.length [.one]) cs
  | [], _ => by simp [repeatL, RepL]
  | c :: cs, h => by
    simp only [List.length_cons, repeatL, List.cons_append, List.nil_append, RepL]
    exact ⟨c, cs, rfl, by simp only [Rep]; exact h c List.mem_cons_self, repL_ones cs fun x hx => h x (List.mem_cons_of_mem _ hx)⟩

/-- a struct that came in: so many cells, of which nothing is known -/
theorem rep_struct {r : Reach} {base : Nat} {t : TypeId} {fs : Array Field} {v : Value} {n : Nat} (hu : P.underlying t = some (.struct fs)) (hn : P.cellsOf t = n) (h : Value.okWide P w r base t v) :
    Rep G w (.agg (repeatL n [.one])) v := by
  unfold Value.okWide at h
  rw [hu] at h
  obtain ⟨cs, rfl, hs, ts, _, _, hc⟩ := h
  simp only [Rep]
  refine ⟨cs.toList, rfl, ?_⟩
  have hl : cs.toList.length = n := by rw [Array.length_toList, hs, hn]
  rw [← hl]
  refine repL_ones _ fun c hc' => ?_
  obtain ⟨i, hi, rfl⟩ := List.getElem_of_mem hc'
  obtain ⟨u, _, hk⟩ := hc i (cs.toList[i]) (by rw [Array.length_toList] at hi; simp [hi])
  exact oneV_of_cell hk

/-- what a frame starts from: no block of its own; 'N': blocks that nobody writes -/
def Ghost.start (N : Nat → Prop) : Ghost := ⟨fun _ => none, N⟩
theorem Sim.start {N : Nat → Prop} (hN : ∀ b, N b → b < w.heap.size) : Sim w.heap.size (Ghost.start N) .empty w where
  blk i b h := by simp [AHeap.get, AHeap.empty, Tr.get_leaf] at h
  inj i j bi bj k h := by simp [AHeap.get, AHeap.empty, Tr.get_leaf] at h
  old i k h := by cases h
  small i k h := by cases h
  nsmall := hN
  base := Nat.le_refl _

/-- **What the executor says of a call with which a law begins.** -/
theorem calls_of_run {prims : CallF} (hmix : C.P.follows .mixedOrders = true) (hext : ExtOk C) (hprims : CallOk C w.heap.size prims) {fuel n : Nat} {f : FuncId} {args : List AV} {xs : List Value} {v : AV} {H' : AHeap} {N : Nat → Prop}
    (hN : ∀ b, N b → b < w.heap.size) (hg : GlobOk C (.start N) w) (ha : RepL (.start N) w args xs) (h : callF C prims fuel n f args .empty = some (.ret v, H')) :
    Calls C.P f ⟨xs⟩ w fun e w' => RowKit.Below w.heap.size w w' ∧ ∃ G' x, e = .returned x ∧ Rep G' w' v x := by
  refine (callF_sound hmix hext hprims fuel n f args .empty _ H' h (.start N) w xs (Sim.start hN) hg ha).mono fun e w' he => ?_
  obtain ⟨G', hs', he', hend⟩ := he
  refine ⟨he'.below (Sim.start hN), G', ?_⟩
  cases e <;> simp only [EndRep] at hend
  exact ⟨_, rfl, hend⟩

/-- true is said -/
def saysTrue : Option (AEnd × AHeap) → Bool
  | some (.ret (.bool true), _) => true
  | _ => false

theorem calls_true {prims : CallF} (hmix : C.P.follows .mixedOrders = true) (hext : ExtOk C) (hprims : CallOk C w.heap.size prims) {fuel n : Nat} {f : FuncId} {args : List AV} {xs : List Value} {N : Nat → Prop}
    (hN : ∀ b, N b → b < w.heap.size) (hg : GlobOk C (.start N) w) (ha : RepL (.start N) w args xs) (h : saysTrue (callF C prims fuel n f args .empty) = true) :
    Calls C.P f ⟨xs⟩ w fun e w' => e = .returned (.bool true) ∧ RowKit.Below w.heap.size w w' := by
  unfold saysTrue at h
  split at h <;> try contradiction
  rename_i H' heq
  refine (calls_of_run hmix hext hprims hN hg ha heq).mono fun e w' he => ?_
  obtain ⟨hb, G', x, rfl, hx⟩ := he
  simp only [Rep] at hx
  subst hx
  exact ⟨rfl, hb⟩

/-- no contract beside the executor's own -/
def noPrims : CallF := fun _ _ _ => none
theorem noPrims_ok : CallOk C B noPrims := fun _ _ _ _ _ h => by cases h
theorem noExt_ok (h : C.ext = fun _ _ _ => none) : ExtOk C := fun _ _ _ _ _ e => by rw [h] at e; cases e

/-- a table of one variable, told cell by cell -/
theorem globOk_one {g : Nat} {k : IntKind} {ns : List Int} (hC : C.glob = fun x => bif Nat.beq x g then some (ns.map fun n => .int k n) else none)
    (hw : ∀ (j : Nat) n, ns[j]? = some n → w.cell? ⟨g, j, none⟩ = some (.int k n)) : GlobOk C (.start (· = g)) w := by
  intro x cs hx
  rw [hC] at hx
  simp only [nbeq] at hx
  by_cases e : x = g
  · subst e
    simp only [decide_true, cond_true, Option.some.injEq] at hx
    subst hx
    simp only [Rep]
    refine ⟨x, 0, ns.map fun n => .int k n, rfl, rfl, ?_, ?_⟩
    · clear hw hC
      induction ns with
      | nil => simp [RepL]
      | cons n ns ih => simp only [List.map_cons, RepL]; exact ⟨_, _, rfl, by simp [Rep], ih⟩
    · intro j v hv
      rw [List.getElem?_map, Option.map_eq_some_iff] at hv
      obtain ⟨n, hn, rfl⟩ := hv
      rw [Nat.zero_add]; exact hw j n hn
  · simp [e] at hx

theorem glob_small {g : Nat} {v : Value} (h : w.cell? ⟨g, 0, none⟩ = some v) : ∀ b, b = g → b < w.heap.size := by
  rintro b rfl
  unfold World.cell? at h
  simp only at h
  by_cases hlt : b < w.heap.size
  · exact hlt
  · rw [Array.getElem?_eq_none (by omega)] at h; simp at h
theorem laidVars_mem : ∀ {l : List (String × DataW Unit)} {ps : List MemPlace} {n : String} {d : DataW Unit}, DataW.LaidVars P w l ps → (n, d) ∈ l →
    ∃ g t cs fuel p, P.globalNamed n = some g ∧ (P.globals[g]?).map (·.type) = some t ∧ w.var? P n = some cs ∧ DataW.trod (fun _ => ()) P w 0 (fun _ => true) false fuel t cs.toList = some (d, p)
  | [], _, _, _, _, h => by cases h
  | (n', d') :: r, ps, n, d, hl, h => by
    obtain ⟨g, t, cs, fuel, p, q, h1, h2, h3, h4, h5, _⟩ := hl
    rcases List.mem_cons.1 h with e | e
    · obtain ⟨rfl, rfl⟩ := Prod.mk.inj e
      exact ⟨g, t, cs, fuel, p, h1, h2, h3, h4⟩
    · exact laidVars_mem h5 e

/-- the cells of a variable that is an array of whole numbers, and is told -/
theorem cells_of_laid {l : List (String × DataW Unit)} {name : String} {g t n e : Nat} {k : IntKind} {ns : List Int} (h : laidMet P l w) (hm : (name, DataW.agg (ns.map fun n => .lit (.int k n))) ∈ l)
    (hg : P.globalNamed name = some g) (hgt : (P.globals[g]?).map (·.type) = some t) (hu : P.underlying t = some (.array n e)) (he : P.underlying e = some (.int k)) (hc : P.cellsOf e = 1) :
    ∀ (j : Nat) m, ns[j]? = some m → w.cell? ⟨g, j, none⟩ = some (.int k m) := by
  obtain ⟨ps, hv, _⟩ := h
  obtain ⟨g', t', cs, fuel, p, h1, h2, h3, h4⟩ := laidVars_mem hv hm
  obtain rfl := Option.some.inj (hg.symm.trans h1)
  obtain rfl := Option.some.inj (hgt.symm.trans h2)
  obtain ⟨xs, m0, _, hx, _, hn, hel⟩ := DataW.trod_array hu h4
  simp only [Prod.mk.injEq, DataW.agg.injEq] at hx
  obtain ⟨hx, _⟩ := hx
  intro j m hj
  have hlen : ns.length = n := by
    have := congrArg List.length hx
    simpa [hn] using this
  have hjn : j < n := by
    rw [← hlen]
    exact (List.getElem?_eq_some_iff.1 hj).1
  have hxj : (xs.map (·.1))[j]? = some (.lit (.int k m)) := by rw [← hx, List.getElem?_map, hj]; rfl
  rw [List.getElem?_map, Option.map_eq_some_iff] at hxj
  obtain ⟨x, hx1, hx2⟩ := hxj
  have hj' := hel j hjn
  rw [hx1, hc, Nat.mul_one] at hj'
  obtain ⟨m', e1, e2, _⟩ := DataW.trod_int he hj'
  subst e2
  simp only [DataW.lit.injEq, Lit.int.injEq, true_and] at hx2
  subst hx2
  rw [World.var?_cell hg h3 j]
  have h0 := congrArg (·[0]?) e1
  simpa using h0
end
end Go.AX
end
section
open Go (execOp)
/- AX: the executor in a form that the kernel evaluates quickly; and that it is the executor. -/
namespace Go.AX
open CheckFast (force)
section
variable {β : Type}

/-- does the operation reckon? (else what it yields was forced before) -/
def deepOp (o : Oper) : Bool :=
  match o.op with
  | .move _ | .assign _ | .pick .. | .nilCheck _ | .load .. | .field .. | .extract .. | .makeInterface .. | .typeAssert .. => false
  | _ => true
def forceV (deep : Bool) (v : AV) (k : AV → β) : β := match deep with
  | true => forceAV v k
  | false => forceTop v k
theorem forceV_eq (deep : Bool) (v : AV) (k : AV → β) : forceV deep v k = k v := by cases deep <;> simp [forceV, forceAV_eq, forceTop_eq]

def putK (deep : Bool) (st : St) (dst : Option Tmp) (v : AV) : Option St := match st with
  | ⟨env, size, H, dfr, rc⟩ => match dst with
    | none => some ⟨env, size, H, dfr, rc⟩
    | some d => bif d.blt size then forceV deep v fun v => Tr.updK (d + 1) env d (some v) fun env => some ⟨env, size, H, dfr, rc⟩ else none
theorem putK_eq (deep : Bool) (st : St) (dst : Option Tmp) (v : AV) : putK deep st dst v = putA st dst v := by
  cases st; cases dst <;> simp [putK, putA, forceV_eq, Tr.updK_eq, Tr.set, Tr.upd]

def goK (deep : Bool) (st : St) (dst : Option Tmp) (v : AV) : Option SRes := match putK deep st dst v with
  | some st => some (.go st)
  | none => none
theorem goK_eq (deep : Bool) (st : St) (dst : Option Tmp) (v : AV) : goK deep st dst v = (putA st dst v).map .go := by
  unfold goK; rw [putK_eq]; cases putA st dst v <;> rfl

def pureW (C : Cfg) (o : Oper) (env : Env) (size : Nat) (H : AHeap) (dfr : List Dfr) (rc : Rc) : Option SRes := match evalPure C (evalO C env) o with
  | some v => goK (deepOp o) ⟨env, size, H, dfr, rc⟩ o.dst v
  | none => none
def readW (C : Cfg) (o : Oper) (env : Env) (size : Nat) (H : AHeap) (dfr : List Dfr) (rc : Rc) : Option SRes := match evalRead C H (evalO C env) o with
  | some v => goK (deepOp o) ⟨env, size, H, dfr, rc⟩ o.dst v
  | none => none
def chgW (C : Cfg) (o : Oper) (env : Env) (size : Nat) (H : AHeap) (dfr : List Dfr) (rc : Rc) : Option SRes := match evalChg C H (evalO C env) o with
  | some (v, H) => forceH H fun H => goK true ⟨env, size, H, dfr, rc⟩ o.dst v
  | none => none
def freshW (C : Cfg) (o : Oper) (id : Option Nat) (env : Env) (size : Nat) (H : AHeap) (dfr : List Dfr) (rc : Rc) : Option SRes := match id with
  | none => match evalFresh C (evalO C env) o H.next with
    | some (v, b) => forceH (H.push b) fun H => goK true ⟨env, size, H, dfr, rc⟩ o.dst v
    | none => none
  | some i => match evalFresh C (evalO C env) o i with
    | some (v, b) => forceH (H.putAt i b) fun H => goK true ⟨env, size, H, dfr, rc⟩ o.dst v
    | none => none
def callW2 (C : Cfg) (call : CallF) (o : Oper) (f : FuncId) (xs : List AV) (env : Env) (size : Nat) (H : AHeap) (dfr : List Dfr) (rc : Rc) : Option SRes := match hasBody C.P f with
  | true => match call f xs H with
    | some (.ret v, H) => forceH H fun H => goK true ⟨env, size, H, dfr, rc⟩ o.dst v
    | some (.pan v, H) => forceH H fun H => some (.pan v ⟨env, size, H, dfr, rc⟩)
    | none => none
  | false => match C.ext f xs H with
    | some (v, H) => forceH H fun H => goK true ⟨env, size, H, dfr, rc⟩ o.dst v
    | none => none
def callW (C : Cfg) (call : CallF) (o : Oper) (c : Call) (env : Env) (size : Nat) (H : AHeap) (dfr : List Dfr) (rc : Rc) : Option SRes := match calledA C (evalO C env) c with
  | some (f, args, cap) => forceList (args ++ cap) fun xs => callW2 C call o f xs env size H dfr rc
  | none => none
def deferW (C : Cfg) (o : Oper) (c : Call) (env : Env) (size : Nat) (H : AHeap) (dfr : List Dfr) (rc : Rc) : Option SRes := match calledA C (evalO C env) c with
  | some (f, args, cap) => match hasBody C.P f with
    | true => forceList args fun args => forceList cap fun cap => goK true ⟨env, size, H, .call f args cap :: dfr, rc⟩ o.dst .undef
    | false => none
  | none => none
def recoverW (o : Oper) (env : Env) (size : Nat) (H : AHeap) (dfr : List Dfr) (rc : Rc) : Option SRes := match rc with
  | .off => none
  | .nil => goK true ⟨env, size, H, dfr, .nil⟩ o.dst .nilIface
  | .val v => goK true ⟨env, size, H, dfr, .nil⟩ o.dst v
def panicW (C : Cfg) (x : Operand) (env : Env) (size : Nat) (H : AHeap) (dfr : List Dfr) (rc : Rc) : Option SRes := match evalO C env x with
  | some v => match panicA v with
    | some v => some (.pan v ⟨env, size, H, dfr, rc⟩)
    | none => none
  | none => none
def runOpW (C : Cfg) (call : CallF) (o : Oper) (id : Option Nat) (env : Env) (size : Nat) (H : AHeap) (dfr : List Dfr) (rc : Rc) : Way → Option SRes
  | .pure => pureW C o env size H dfr rc
  | .read => readW C o env size H dfr rc
  | .chg => chgW C o env size H dfr rc
  | .fresh => freshW C o id env size H dfr rc
  | .call c => callW C call o c env size H dfr rc
  | .defer c => deferW C o c env size H dfr rc
  | .recover => recoverW o env size H dfr rc
  | .panic x => panicW C x env size H dfr rc
def runOpK (C : Cfg) (call : CallF) (o : Oper) (id : Option Nat) (st : St) : Option SRes := match st with
  | ⟨env, size, H, dfr, rc⟩ => runOpW C call o id env size H dfr rc (wayOf C.P o)

theorem runOpK_eq (C : Cfg) (call : CallF) (o : Oper) (id : Option Nat) (st : St) : runOpK C call o id st = runOp C call o id st := by
  obtain ⟨env, size, H, dfr, rc⟩ := st
  unfold runOpK runOp
  simp only []
  cases hw : wayOf C.P o with
  | pure => simp only [runOpW, pureW, goK_eq]; cases evalPure C (evalO C env) o <;> rfl
  | read => simp only [runOpW, readW, goK_eq]; cases evalRead C H (evalO C env) o <;> rfl
  | chg => simp only [runOpW, chgW, goK_eq, forceH_eq]; cases evalChg C H (evalO C env) o <;> rfl
  | fresh => cases id <;> simp only [runOpW, freshW, goK_eq, forceH_eq] <;> split <;> simp_all
  | call c =>
    simp only [runOpW, callW, callW2, goK_eq, forceH_eq, forceList_eq]
    cases calledA C (evalO C env) c with
    | none => rfl
    | some r =>
      obtain ⟨f, args, cap⟩ := r
      simp only [Option.bind_some]
      cases hasBody C.P f with
      | true =>
        simp only [cond_true]
        cases call f (args ++ cap) H with
        | none => rfl
        | some r => obtain ⟨e, H'⟩ := r; cases e <;> rfl
      | false =>
        simp only [cond_false]
        cases C.ext f (args ++ cap) H <;> rfl
  | defer c =>
    simp only [runOpW, deferW, goK_eq, forceList_eq]
    cases calledA C (evalO C env) c with
    | none => rfl
    | some r =>
      obtain ⟨f, args, cap⟩ := r
      simp only [Option.bind_some]
      cases hasBody C.P f <;> rfl
  | recover => cases rc <;> simp only [runOpW, recoverW, goK_eq]
  | panic x =>
    simp only [runOpW, panicW]
    cases evalO C env x with
    | none => rfl
    | some v => simp only [Option.bind_some]; cases panicA v <;> rfl

def stepK (C : Cfg) (call : CallF) (ops : Array Oper) (o : Oper) (id : Option Nat) (st : St) : Option SRes :=
  match wantedA ops st.env o with
  | none => none
  | some false => goK true st o.dst .undef
  | some true => runOpK C call o id st
theorem stepK_eq (C : Cfg) (call : CallF) (ops : Array Oper) (o : Oper) (id : Option Nat) (st : St) : stepK C call ops o id st = stepA C call ops o id st := by
  unfold stepK stepA; simp only [runOpK_eq, goK_eq]
  cases wantedA ops st.env o with
  | none => rfl
  | some b => cases b <;> rfl

def runOpsK (C : Cfg) (call : CallF) (ops : Array Oper) : List Oper → St → Option SRes
  | [], st => some (.go st)
  | o :: os, st => match stepK C call ops o none st with
    | some (.go st) => runOpsK C call ops os st
    | r => r
theorem runOpsK_eq (C : Cfg) (call : CallF) (ops : Array Oper) : ∀ (os : List Oper) (st : St), runOpsK C call ops os st = runOps C call ops os st
  | [], st => rfl
  | o :: os, st => by
    unfold runOpsK runOps
    rw [stepK_eq]
    split <;> simp_all [runOpsK_eq C call ops os]

def onlyEnvK (env : Env) : List Tmp → (Env → β) → β
  | [], k => k .leaf
  | t :: ts, k => match env.get t with
    | some v => onlyEnvK env ts fun e => Tr.updK (t + 1) e t (some v) k
    | none => onlyEnvK env ts k
theorem onlyEnvK_eq (env : Env) : ∀ (ts : List Tmp) (k : Env → β), onlyEnvK env ts k = k (onlyEnv env ts)
  | [], k => rfl
  | t :: ts, k => by
    unfold onlyEnvK onlyEnv
    cases env.get t <;> simp only [onlyEnvK_eq env ts, Tr.updK_eq, Tr.set, Tr.upd]

/-- the order keeps what must come ahead; told of the text alone -/
def orderGood (P : Program) (ops : Array Oper) : List Nat → List Nat → Bool
  | [], _ => true
  | i :: is, seen => match ops[i]? with
    | none => false
    | some o => !(seen.any fun j => Nat.beq j i) && (o.after.all fun e => !(Region.binds .any e) || seen.any fun j => Nat.beq j e.on) && (wayOf P o).calm && orderGood P ops is (i :: seen)

def drawNext (i : Nat) (o : Oper) (want : Bool) (env : Env) (a b : St) (ms : List Mark1) (k : St → List Mark1 → Option (List Mark1 × St)) : Option (List Mark1 × St) := match b with
  | ⟨env', size', H', dfr', rc'⟩ => match o.dst with
    | none => k ⟨env, size', H', dfr', rc'⟩ (⟨i, o, want, a, ⟨env', size', H', dfr', rc'⟩⟩ :: ms)
    | some d => Tr.updK (d + 1) env d (env'.get d) fun env2 => k ⟨env2, size', H', dfr', rc'⟩ (⟨i, o, want, a, ⟨env', size', H', dfr', rc'⟩⟩ :: ms)
def drawStep (C : Cfg) (call : CallF) (ops : Array Oper) (base i : Nat) (o : Oper) (st : St) (ms : List Mark1) (k : St → List Mark1 → Option (List Mark1 × St)) : Option (List Mark1 × St) := match st with
  | ⟨env, size, H, dfr, rc⟩ => onlyEnvK env (o.looksAt ops) fun small => force (base + i) fun id =>
      match wantedA ops small o, stepK C call ops o (some id) ⟨small, size, H, dfr, rc⟩ with
      | some want, some (.go b) => drawNext i o want env ⟨small, size, H, dfr, rc⟩ b ms k
      | _, _ => none
def runDrawK (C : Cfg) (call : CallF) (ops : Array Oper) (base : Nat) : List Nat → St → List Mark1 → Option (List Mark1 × St)
  | [], st, ms => some (ms, st)
  | i :: is, st, ms => match ops[i]? with
    | none => none
    | some o => drawStep C call ops base i o st ms fun st ms => runDrawK C call ops base is st ms

theorem runDrawK_eq (C : Cfg) (call : CallF) (ops : Array Oper) (base : Nat) : ∀ (is : List Nat) (st : St) (ms : List Mark1), orderGood C.P ops is (ms.map (·.i)) = true → runDrawK C call ops base is st ms = runDraw C call ops base is st ms
  | [], st, ms, _ => rfl
  | i :: is, ⟨env, size, H, dfr, rc⟩, ms, hg => by
    unfold runDrawK runDraw
    unfold orderGood at hg
    cases hi : ops[i]? with
    | none => rfl
    | some o =>
      rw [hi] at hg
      simp only [Bool.and_eq_true, Bool.not_eq_true'] at hg
      obtain ⟨⟨⟨g1, g2⟩, g3⟩, g4⟩ := hg
      have e1 : (ms.any fun m => Nat.beq m.i i) = false := by
        rw [← g1, List.any_map]; rfl
      have e2 : (o.after.all fun e => !(Region.binds .any e) || ms.any fun m => Nat.beq m.i e.on) = true := by
        rw [← g2]
        congr 1
        funext e
        rw [List.any_map]; rfl
      simp only [drawStep, onlyEnvK_eq, force_eq', stepK_eq, e1, e2, g3, Bool.not_true, Bool.or_self, cond_false]
      cases wantedA ops (onlyEnv env (o.looksAt ops)) o with
      | none => rfl
      | some want =>
        cases stepA C call ops o (some (base + i)) ⟨onlyEnv env (o.looksAt ops), size, H, dfr, rc⟩ with
        | none => rfl
        | some r =>
          cases r with
          | pan v st => rfl
          | go b =>
            obtain ⟨env', size', H', dfr', rc'⟩ := b
            simp only [drawNext]
            cases o.dst with
            | none => simp only []; exact runDrawK_eq C call ops base is _ _ g4
            | some d => simp only [Tr.updK_eq, Tr.upd]; exact runDrawK_eq C call ops base is _ _ g4

def sameDstO (x y : Oper) : Bool :=
  match x.dst, y.dst with
  | some d, some e => Nat.beq d e
  | _, _ => false
def kindsGo : Nat → Nat → Bool
  | 0, _ | _, 0 | 1, 1 | 1, 3 | 2, 3 | 3, 3 => true
  | _, _ => false
/-- the two may come in either order, or are in order, whatever their run did -/
def pairStat (P : Program) (ops : Array Oper) (tab : Tr Nat) (i : Nat) (o : Oper) (i' : Nat) (o' : Oper) : Bool :=
  !(sameDstO o o') && !(Nat.beq (kindOf P o') 3) && (((tab.get i').getD 0).testBit i || (o.apart ops o' && kindsGo (kindOf P o) (kindOf P o')))
/-- the rest: what is looked at was worked out before -/
def keepsReadK (C : Cfg) (o : Oper) (rH : AHeap) (re : Env) (aH bH : AHeap) : Bool :=
  match evalRead C rH (evalO C re) o with
  | some v => optBeq (evalRead C aH (evalO C re) o) v && optBeq (evalRead C bH (evalO C re) o) v
  | none => false
def pairDyn (C : Cfg) (ops : Array Oper) (tab : Tr Nat) (base i : Nat) (o : Oper) (want : Bool) (ae : Env) (aH bH : AHeap) (i' : Nat) (o' : Oper) (want' : Bool) (ae' : Env) (aH' bH' : AHeap) : Bool :=
  !(sameDstO o o') && (!(Nat.beq (kindOf C.P o') 3) || (force (base + i') fun j => !((aH.get j).isSome))) && (((tab.get i').getD 0).testBit i || (o.apart ops o' &&
    (match (bif want then kindOf C.P o else 0), (bif want' then kindOf C.P o' else 0) with
     | 0, _ | _, 0 => true
     | 1, 1 | 1, 3 | 2, 3 | 3, 3 => true
     | 1, 2 => keepsReadK C o aH ae aH' bH'
     | 2, 1 => keepsReadK C o' aH' ae' aH bH
     | _, _ => false)))
def pairK (C : Cfg) (ops : Array Oper) (tab : Tr Nat) (base : Nat) (x m : Mark1) : Bool := match x, m with
  | ⟨i, o, want, ⟨ae, _, aH, _, _⟩, ⟨_, _, bH, _, _⟩⟩, ⟨i', o', want', ⟨ae', _, aH', _, _⟩, ⟨_, _, bH', _, _⟩⟩ =>
    match pairStat C.P ops tab i o i' o' with
    | true => true
    | false => pairDyn C ops tab base i o want ae aH bH i' o' want' ae' aH' bH'
def drawOkK (C : Cfg) (ops : Array Oper) (tab : Tr Nat) (base : Nat) : List Mark1 → Bool
  | [] => true
  | m :: ms => (match m with
    | ⟨i, o, _, ⟨_, _, H, _, _⟩, _⟩ => !(Nat.beq (kindOf C.P o) 3) || (force (base + i) fun j => !((H.get j).isSome))) && (ms.all fun x => pairK C ops tab base x m) && drawOkK C ops tab base ms

theorem kinds_of (P : Program) (o o' : Oper) (want want' : Bool) (h : kindsGo (kindOf P o) (kindOf P o') = true) :
    (bif want then kindOf P o else 0) = 0 ∨ (bif want' then kindOf P o' else 0) = 0 ∨ (want = true ∧ want' = true) := by
  cases want <;> cases want' <;> simp

theorem pairDyn_eq (C : Cfg) (ops : Array Oper) (tab : Tr Nat) (base : Nat) (x m : Mark1) :
    pairDyn C ops tab base x.i x.o x.want x.a.env x.a.H x.b.H m.i m.o m.want m.a.env m.a.H m.b.H = pairOk C ops tab base x m := by
  simp only [pairDyn, force_eq']
  rfl

theorem pairStat_ok (C : Cfg) (ops : Array Oper) (tab : Tr Nat) (base : Nat) (x m : Mark1) (h : pairStat C.P ops tab x.i x.o m.i m.o = true) : pairOk C ops tab base x m = true := by
  unfold pairStat at h
  unfold pairOk swapOk kind1 sameDst
  unfold sameDstO at h
  simp only [Bool.and_eq_true, Bool.or_eq_true] at h ⊢
  obtain ⟨⟨h1, h2⟩, h3⟩ := h
  refine ⟨⟨h1, .inl h2⟩, ?_⟩
  rcases h3 with h3 | ⟨h3, h4⟩
  · exact .inl h3
  · refine .inr ⟨h3, ?_⟩
    cases x.want with
    | false => simp
    | true =>
      cases m.want with
      | false => simp only [cond_false, cond_true]; split <;> simp_all
      | true =>
        simp only [cond_true]
        unfold kindsGo at h4
        split at h4 <;> simp_all

theorem pairK_eq (C : Cfg) (ops : Array Oper) (tab : Tr Nat) (base : Nat) (x m : Mark1) : pairK C ops tab base x m = pairOk C ops tab base x m := by
  rw [← pairDyn_eq]
  have hs := pairStat_ok C ops tab base x m
  rw [← pairDyn_eq] at hs
  obtain ⟨i, o, want, ⟨ae, asz, aH, ad, ar⟩, ⟨be, bsz, bH, bd, br⟩⟩ := x
  obtain ⟨i', o', want', ⟨ae', asz', aH', ad', ar'⟩, ⟨be', bsz', bH', bd', br'⟩⟩ := m
  simp only [pairK]
  cases h : pairStat C.P ops tab i o i' o' with
  | true => exact (hs h).symm
  | false => rfl

theorem drawOkK_eq (C : Cfg) (ops : Array Oper) (tab : Tr Nat) (base : Nat) : ∀ ms, drawOkK C ops tab base ms = drawOk C ops tab base ms
  | [] => rfl
  | m :: ms => by
    simp only [drawOkK, drawOk, pairK_eq, drawOkK_eq C ops tab base ms, force_eq']

/-- the marks tell the order, and the operations -/
theorem runDraw_marks (C : Cfg) (call : CallF) (ops : Array Oper) (base : Nat) : ∀ (is : List Nat) (st : St) (ms ms' : List Mark1) (st' : St), runDraw C call ops base is st ms = some (ms', st') → (∀ m ∈ ms, ops[m.i]? = some m.o) →
    ms'.map (·.i) = is.reverse ++ ms.map (·.i) ∧ ∀ m ∈ ms', ops[m.i]? = some m.o
  | [], st, ms, ms', st', h, hm => by
    simp only [runDraw, Option.some.injEq, Prod.mk.injEq] at h
    obtain ⟨rfl, _⟩ := h
    exact ⟨rfl, hm⟩
  | i :: is, st, ms, ms', st', h, hm => by
    unfold runDraw at h
    cases hi : ops[i]? with
    | none => rw [hi] at h; cases h
    | some o =>
      rw [hi] at h
      simp only [] at h
      replace h := (cond_none h).2
      split at h <;> try contradiction
      obtain ⟨h1, h2⟩ := runDraw_marks C call ops base is _ _ ms' st' h (fun m hm' => by
        rcases List.mem_cons.1 hm' with rfl | hm'
        · exact hi
        · exact hm m hm')
      refine ⟨?_, h2⟩
      rw [h1]; simp

def pairStatC (P : Program) (ops : Array Oper) (tab : Tr Nat) (j i : Nat) : Bool := match ops[j]?, ops[i]? with
  | some o, some o' => pairStat P ops tab j o i o'
  | _, _ => false
def rowStat (P : Program) (ops : Array Oper) (tab : Tr Nat) (i : Nat) (is : List Nat) : Bool := is.all fun j => pairStatC P ops tab j i
def rowL (C : Cfg) (ops : Array Oper) (tab : Tr Nat) (base i : Nat) (m : Mark1) : List Nat → List Mark1 → Bool
  | [], [] => true
  | j :: js, x :: xs => match pairStatC C.P ops tab j i with
    | true => rowL C ops tab base i m js xs
    | false => pairK C ops tab base x m && rowL C ops tab base i m js xs
  | _, _ => false
def ownL (C : Cfg) (base : Nat) (m : Mark1) : Bool := match m with
  | ⟨i, o, _, ⟨_, _, H, _, _⟩, _⟩ => !(Nat.beq (kindOf C.P o) 3) || (force (base + i) fun j => !((H.get j).isSome))
def drawOkL (C : Cfg) (ops : Array Oper) (tab : Tr Nat) (base : Nat) : List Nat → List Mark1 → Bool
  | [], [] => true
  | i :: is, m :: ms => ownL C base m && (match rowStat C.P ops tab i is with
    | true => true
    | false => rowL C ops tab base i m is ms) && drawOkL C ops tab base is ms
  | _, _ => false

theorem pairStatC_ok (C : Cfg) (ops : Array Oper) (tab : Tr Nat) (base : Nat) (x m : Mark1) (hx : ops[x.i]? = some x.o) (hm : ops[m.i]? = some m.o) (h : pairStatC C.P ops tab x.i m.i = true) : pairOk C ops tab base x m = true := by
  unfold pairStatC at h
  rw [hx, hm] at h
  exact pairStat_ok C ops tab base x m h

theorem rowL_eq (C : Cfg) (ops : Array Oper) (tab : Tr Nat) (base : Nat) (m : Mark1) (hm : ops[m.i]? = some m.o) : ∀ (ms : List Mark1), (∀ x ∈ ms, ops[x.i]? = some x.o) → rowL C ops tab base m.i m (ms.map (·.i)) ms = ms.all fun x => pairOk C ops tab base x m
  | [], _ => rfl
  | x :: xs, h => by
    have ih := rowL_eq C ops tab base m hm xs fun y hy => h y (List.mem_cons_of_mem _ hy)
    simp only [List.map_cons, rowL, List.all_cons, pairK_eq, ih]
    cases hs : pairStatC C.P ops tab x.i m.i with
    | true => rw [pairStatC_ok C ops tab base x m (h x List.mem_cons_self) hm hs]; rfl
    | false => rfl

theorem drawOkL_eq (C : Cfg) (ops : Array Oper) (tab : Tr Nat) (base : Nat) : ∀ (ms : List Mark1), (∀ x ∈ ms, ops[x.i]? = some x.o) → drawOkL C ops tab base (ms.map (·.i)) ms = drawOk C ops tab base ms
  | [], _ => rfl
  | m :: ms, h => by
    have hm := h m List.mem_cons_self
    have hms : ∀ x ∈ ms, ops[x.i]? = some x.o := fun y hy => h y (List.mem_cons_of_mem _ hy)
    have ih := drawOkL_eq C ops tab base ms hms
    simp only [List.map_cons, drawOkL, drawOk, ih, ownL, force_eq', rowL_eq C ops tab base m hm ms hms]
    cases hs : rowStat C.P ops tab m.i (ms.map (·.i)) with
    | true =>
      have : (ms.all fun x => pairOk C ops tab base x m) = true := List.all_eq_true.2 fun x hx =>
        pairStatC_ok C ops tab base x m (hms x hx) hm (List.all_eq_true.1 hs _ (List.mem_map.2 ⟨x, hx, rfl⟩))
      rw [this]
    | false => rfl

def drawK (C : Cfg) (call : CallF) (ops : Array Oper) (env : Env) (size : Nat) (H : AHeap) (dfr : List Dfr) (rc : Rc) : Option (Out × St) :=
  bif !((List.range ops.size).all fun j => (drawOrder C.P ops).any (Nat.beq j)) || !(Region.noSelect ops) then none else
  bif orderGood C.P ops (drawOrder C.P ops) [] then
    force (H.next + ops.size) fun nx => match runDrawK C call ops H.next (drawOrder C.P ops) ⟨env, size, ⟨nx, H.tr⟩, dfr, rc⟩ [] with
    | some (ms, st) => bif drawOkL C ops (befTab ops) H.next (drawOrder C.P ops).reverse ms then some (.normal, st) else none
    | none => none
  else match runDraw C call ops H.next (drawOrder C.P ops) ⟨env, size, ⟨H.next + ops.size, H.tr⟩, dfr, rc⟩ [] with
    | some (ms, st) => bif drawOk C ops (befTab ops) H.next ms then some (.normal, st) else none
    | none => none
def regionK (C : Cfg) (call : CallF) (ops : Array Oper) (draw : Bool) (st : St) : Option (Out × St) := match draw with
  | true => match st with
    | ⟨env, size, H, dfr, rc⟩ => drawK C call ops env size H dfr rc
  | false => match runOpsK C call ops ops.toList st with
    | none => none
    | some (.go st) => some (.normal, st)
    | some (.pan v st) => some (.pan v, st)
abbrev ExF := Code → St → Option (Out × St)
def seqK (ex : ExF) (y : Code) : Option (Out × St) → Option (Out × St)
  | some (.normal, st) => ex y st
  | r => r
def condK (ex : ExF) (x y : Code) (st : St) : Option AV → Option (Out × St)
  | some (.bool t) => match t with
    | true => ex x st
    | false => ex y st
  | _ => none
def blockK (id : Nat) : Option (Out × St) → Option (Out × St)
  | some (.exit i, st) => bif Nat.beq i id then some (.normal, st) else some (.exit i, st)
  | r => r
def rangeK2 (env : Env) (size : Nat) (dfr : List Dfr) : Option (AEnd × AHeap) → Option (Out × St)
  | some (.ret _, H) => forceH H fun H => some (.normal, ⟨env, size, H, .mark :: dfr, .off⟩)
  | _ => none
def rangeK (C : Cfg) (call : CallF) (f : Operand) (st : St) : Option (Out × St) := match st with
  | ⟨env, size, H, dfr, rc⟩ => match rc, evalO C env f with
    | .off, some (.func (.func g) first captured) => match hasBody C.P g with
      | true => forceList (first ++ [.opq] ++ captured) fun xs => rangeK2 env size dfr (call g xs H)
      | false => none
    | _, _ => none
def execK (C : Cfg) (call : CallF) : Nat → Code → St → Option (Out × St)
  | 0, _, _ => none
  | n + 1, c, st => match c with
    | .skip | .label _ => some (.normal, st)
    | .region _ ops draw => regionK C call ops draw st
    | .seq x y => seqK (execK C call n) y (execK C call n x st)
    | .cond c x y => condK (execK C call n) x y st (evalO C st.env c)
    | .block id b => blockK id (execK C call n b st)
    | .loop b => seqK (execK C call n) (.loop b) (execK C call n b st)
    | .exit id => some (.exit id, st)
    | .goto l => some (.goto l, st)
    | .scope c => scopeRun (execK C call n) n c c st
    | .ret => some (.ret, st)
    | .rangeFunc f _ _ _ => rangeK C call f st
    | _ => none

theorem execK_eq (C : Cfg) (call : CallF) : ∀ (n : Nat), execK C call n = exec C call n
  | 0 => rfl
  | n + 1 => by
    have ih := execK_eq C call n
    funext c st
    cases c with
    | skip => rfl
    | label l => rfl
    | region id ops draw =>
      cases draw with
      | true =>
        obtain ⟨env, size, H, dfr, rc⟩ := st
        simp only [execK, exec, regionK, drawK, force_eq', cond_true]
        congr 1
        cases hg : orderGood C.P ops (drawOrder C.P ops) [] with
        | true =>
          rw [runDrawK_eq C call ops H.next (drawOrder C.P ops) _ [] hg]
          simp only [cond_true]
          cases hr : runDraw C call ops H.next (drawOrder C.P ops) ⟨env, size, ⟨H.next + ops.size, H.tr⟩, dfr, rc⟩ [] with
          | none => rfl
          | some r =>
            obtain ⟨ms, st'⟩ := r
            obtain ⟨h1, h2⟩ := runDraw_marks C call ops H.next _ _ _ _ _ hr (fun m hm => by cases hm)
            rw [List.map_nil, List.append_nil] at h1
            simp only []
            rw [← h1, drawOkL_eq C ops (befTab ops) H.next ms h2]
        | false => rfl
      | false =>
        simp only [execK, exec, regionK, runOpsK_eq, cond_false]
        cases runOps C call ops ops.toList st with
        | none => rfl
        | some r => cases r <;> rfl
    | seq x y =>
      simp only [execK, exec, seqK, ih]
      cases exec C call n x st with
      | none => rfl
      | some r => obtain ⟨o, st'⟩ := r; cases o <;> rfl
    | cond c x y =>
      simp only [execK, exec, condK, ih]
      cases evalO C st.env c with
      | none => rfl
      | some v =>
        cases v <;> first | rfl | (rename_i t; cases t <;> rfl)
    | block id b =>
      simp only [execK, exec, blockK, ih]
      cases exec C call n b st with
      | none => rfl
      | some r => obtain ⟨o, st'⟩ := r; cases o <;> rfl
    | loop b =>
      simp only [execK, exec, seqK, ih]
      cases exec C call n b st with
      | none => rfl
      | some r => obtain ⟨o, st'⟩ := r; cases o <;> rfl
    | exit id => rfl
    | goto l => rfl
    | scope c => simp only [execK, exec, ih]
    | ret => rfl
    | rangeFunc f ps a b =>
      obtain ⟨env, size, H, dfr, rc⟩ := st
      simp only [execK, exec, rangeK, rangeK2, forceH_eq, forceList_eq]
      cases rc with
      | off =>
        cases evalO C env f with
        | none => rfl
        | some v =>
          cases v with
          | func fn a c =>
            cases fn with
            | func g =>
              cases hasBody C.P g with
              | false => rfl
              | true =>
                simp only [cond_true]
                cases call g (a ++ [.opq] ++ c) H with
                | none => rfl
                | some r => obtain ⟨e, H'⟩ := r; cases e <;> rfl
            | _ => rfl
          | _ => rfl
      | _ => rfl
    | _ => rfl

def ofArgsK (t : Env) (i : Nat) (l : List AV) (k : Env → β) : β := match l with
  | [] => k t
  | v :: vs => Tr.updK (i + 1) t i (some v) fun t => force (i + 1) fun i => ofArgsK t i vs k
theorem ofArgsK_eq : ∀ (l : List AV) (t : Env) (i : Nat) (k : Env → β), ofArgsK t i l k = k (ofArgs t i l)
  | [], t, i, k => rfl
  | v :: vs, t, i, k => by
    unfold ofArgsK ofArgs
    simp only [Tr.updK_eq, force_eq', ofArgsK_eq vs, Tr.set, Tr.upd]

def bodyRunK (C : Cfg) (call : CallF) (fuel : Nat) (f : FuncId) (args : List AV) (H : AHeap) (rc : Rc) : Option (Func × Out × St) :=
  match C.P.funcs[f]? with
  | none => none
  | some fn => match fn.body with
    | none => none
    | some c => ofArgsK .leaf 0 args fun env => force (Nat.max args.length fn.ntmps) fun size => match execK C call fuel c ⟨env, size, H, [], rc⟩ with
      | some r => some (fn, r)
      | none => none
theorem bodyRunK_eq (C : Cfg) (call : CallF) (fuel : Nat) (f : FuncId) (args : List AV) (H : AHeap) (rc : Rc) : bodyRunK C call fuel f args H rc = bodyRun C call fuel f args H rc := by
  unfold bodyRunK bodyRun
  simp only [ofArgsK_eq, force_eq', execK_eq]
  cases C.P.funcs[f]? with
  | none => rfl
  | some fn =>
    simp only []
    cases fn.body with
    | none => rfl
    | some c => simp only []; cases exec C call fuel c _ <;> rfl

def leaveK (C : Cfg) (call : CallF) (fuel : Nat) (fn : Func) (st : St) : List Dfr → AHeap → Option AV → Option (AEnd × AHeap)
  | [], H, none => match st with
    | ⟨env, size, _, dfr, rc⟩ => match resultA C.P ⟨env, size, H, dfr, rc⟩ fn with
      | some v => some (.ret v, H)
      | none => none
  | [], H, some v => some (.pan v, H)
  | .mark :: ds, H, p => leaveK C call fuel fn st ds H p
  | .call f args cap :: ds, H, p =>
    forceList (args ++ cap) fun xs => match bodyRunK C call fuel f xs H (match p with | none => .nil | some v => .val v) with
    | some (g, .normal, st') | some (g, .ret, st') => match st'.dfr, resultA C.P st' g with
      | [], some _ => leaveK C call fuel fn st ds st'.H (match st'.rc with | .val v => some v | _ => none)
      | _, _ => none
    | _ => none
theorem leaveK_eq (C : Cfg) (call : CallF) (fuel : Nat) (fn : Func) (st : St) : ∀ (ds : List Dfr) (H : AHeap) (p : Option AV), leaveK C call fuel fn st ds H p = leave C call fuel fn st ds H p
  | [], H, none => by
    obtain ⟨env, size, _, dfr, rc⟩ := st
    simp only [leaveK, leave]
    cases resultA C.P ⟨env, size, H, dfr, rc⟩ fn <;> rfl
  | [], H, some v => rfl
  | .mark :: ds, H, p => by
    unfold leaveK leave
    exact leaveK_eq C call fuel fn st ds H p
  | .call f args cap :: ds, H, p => by
    have ih := leaveK_eq C call fuel fn st ds
    have fin : ∀ (r : Option (Func × Out × St)), (match r with
        | some (g, .normal, st') | some (g, .ret, st') => match st'.dfr, resultA C.P st' g with
          | [], some _ => leaveK C call fuel fn st ds st'.H (match st'.rc with | .val v => some v | _ => none)
          | _, _ => none
        | _ => none) = (match r with
        | some (g, .normal, st') | some (g, .ret, st') => match st'.dfr, resultA C.P st' g with
          | [], some _ => leave C call fuel fn st ds st'.H (match st'.rc with | .val v => some v | _ => none)
          | _, _ => none
        | _ => none) := fun r => by
      cases r with
      | none => rfl
      | some r =>
        obtain ⟨g, o, st'⟩ := r
        cases o <;> simp only []
        all_goals
          cases st'.dfr with
          | nil => cases resultA C.P st' g <;> simp only [ih]
          | cons d r => rfl
    cases p
    · simp only [leaveK, leave, forceList_eq, bodyRunK_eq]; exact fin _
    · simp only [leaveK, leave, forceList_eq, bodyRunK_eq]; exact fin _

def enterK (C : Cfg) (call : CallF) (fuel : Nat) (f : FuncId) (args : List AV) (H : AHeap) : Option (AEnd × AHeap) :=
  match bodyRunK C call fuel f args H .off with
  | some (fn, .normal, st) | some (fn, .ret, st) => leaveK C call fuel fn st st.dfr st.H none
  | some (fn, .pan v, st) => leaveK C call fuel fn st st.dfr st.H (some v)
  | _ => none

def callK (C : Cfg) (prims : CallF) (fuel : Nat) : Nat → CallF
  | 0, _, _, _ => none
  | n + 1, f, args, H => match prims f args H with
    | some r => some r
    | none => enterK C (callK C prims fuel n) fuel f args H

/-- **It is the executor.** -/
theorem callK_eq (C : Cfg) (prims : CallF) (fuel : Nat) : ∀ n, callK C prims fuel n = callF C prims fuel n
  | 0 => rfl
  | n + 1 => by
    funext f args H
    unfold callK callF
    rw [callK_eq C prims fuel n]
    unfold enterK enter
    simp only [bodyRunK_eq, leaveK_eq]
    cases prims f args H with
    | some r => rfl
    | none =>
      cases bodyRun C (callF C prims fuel n) fuel f args H .off with
      | none => rfl
      | some r => obtain ⟨fn, o, st⟩ := r; cases o <;> rfl
end
end Go.AX
end
section
open Go (execOp)
/- AX: a call that was run for itself, over the part of memory that it needs: it may be taken wherever it comes. -/
namespace Go.AX
def entBeq : List (AV × AV × Nat) → List (AV × AV × Nat) → Bool
  | [], [] => true
  | (a, b, n) :: r, (a', b', n') :: r' => AV.beq a a' && AV.beq b b' && Nat.beq n n' && entBeq r r'
  | _, _ => false
def AB.beq : AB → AB → Bool
  | .cells cs ty frz cl, .cells cs' ty' frz' cl' => AV.beqL cs cs' && Nat.beq ty ty' && Nat.beq frz frz' && (cl == cl')
  | .map es c, .map es' c' => entBeq es es' && Nat.beq c c'
  | .siter s p, .siter s' p' => natsBeq s s' && Nat.beq p p'
  | .miter m s l t, .miter m' s' l' t' => decide (m = m') && Nat.beq s s' && natsBeq l l' && Nat.beq t t'
  | _, _ => false
theorem entBeq_eq : ∀ (a b : List (AV × AV × Nat)), entBeq a b = true → a = b
  | [], b, h => by cases b <;> simp only [entBeq] at h <;> first | rfl | contradiction
  | (x, y, n) :: r, b, h => by
    cases b with
    | nil => simp [entBeq] at h
    | cons z r' =>
      obtain ⟨x', y', n'⟩ := z
      simp only [entBeq, Bool.and_eq_true, nbeq, decide_eq_true_iff] at h
      rw [AV.beq_eq _ _ h.1.1.1, AV.beq_eq _ _ h.1.1.2, h.1.2, entBeq_eq _ _ h.2]
theorem AB.beq_eq (a b : AB) (h : AB.beq a b = true) : a = b := by
  cases a <;> cases b <;> simp only [AB.beq] at h <;> try contradiction
  · simp only [Bool.and_eq_true, nbeq, decide_eq_true_iff, beq_iff_eq] at h
    rw [AV.beqL_eq _ _ h.1.1.1, h.1.1.2, h.1.2, h.2]
  · simp only [Bool.and_eq_true, nbeq, decide_eq_true_iff] at h
    rw [entBeq_eq _ _ h.1, h.2]
  · simp only [Bool.and_eq_true, nbeq, decide_eq_true_iff, natsBeq_eq, beq_iff_eq] at h
    rw [h.1, h.2]
  · simp only [Bool.and_eq_true, nbeq, decide_eq_true_iff, natsBeq_eq, beq_iff_eq] at h
    rw [h.1.1.1, h.1.1.2, h.1.2, h.2]

/-- blocks, told one by one -/
abbrev Blocks := List (Nat × AB)
def holds (H : AHeap) : Blocks → Bool
  | [] => true
  | (i, b) :: r => (match H.get i with
    | some b' => AB.beq b' b
    | none => false) && holds H r
def layAll (t : Tr AB) : Blocks → Tr AB
  | [] => t
  | (i, b) :: r => Tr.updK (i + 1) t i (some b) fun t => layAll t r
def dropAll (t : Tr AB) : Blocks → Tr AB
  | [] => t
  | (i, _) :: r => Tr.updK (i + 1) t i none fun t => dropAll t r

theorem holds_get {H : AHeap} : ∀ {l : Blocks}, holds H l = true → ∀ i b, (i, b) ∈ l → H.get i = some b
  | [], _, _, _, h => by cases h
  | (i', b') :: r, hh, i, b, h => by
    simp only [holds, Bool.and_eq_true] at hh
    rcases List.mem_cons.1 h with e | e
    · obtain ⟨rfl, rfl⟩ := Prod.mk.inj e
      cases hg : H.get i with
      | none => rw [hg] at hh; simp at hh
      | some b' => rw [hg] at hh; rw [AB.beq_eq _ _ hh.1]
    · exact holds_get hh.2 i b e

theorem layAll_get : ∀ (l : Blocks) (t : Tr AB) (i : Nat) (b : AB), (layAll t l).get i = some b → (i, b) ∈ l ∨ ((∀ b', (i, b') ∉ l) ∧ t.get i = some b)
  | [], t, i, b, h => .inr ⟨(fun _ h' => nomatch h'), h⟩
  | (i', b') :: r, t, i, b, h => by
    rw [layAll, Tr.updK_eq] at h
    rcases layAll_get r _ i b h with h | ⟨h1, h2⟩
    · exact .inl (List.mem_cons_of_mem _ h)
    · have h3 : (t.upd i' (some b')).get i = some b := h2
      rw [Tr.get_upd] at h3
      by_cases e : i = i'
      · subst e
        rw [if_pos rfl] at h3
        cases h3
        exact .inl List.mem_cons_self
      · rw [if_neg e] at h3
        refine .inr ⟨fun b'' hm => ?_, h3⟩
        rcases List.mem_cons.1 hm with e' | e'
        · exact e (Prod.mk.inj e').1
        · exact h1 _ e'
theorem dropAll_get : ∀ (l : Blocks) (t : Tr AB) (i : Nat) (b : AB), (dropAll t l).get i = some b → (∀ b', (i, b') ∉ l) ∧ t.get i = some b
  | [], t, i, b, h => ⟨(fun _ h' => nomatch h'), h⟩
  | (i', b') :: r, t, i, b, h => by
    rw [dropAll, Tr.updK_eq] at h
    obtain ⟨h1, h2⟩ := dropAll_get r _ i b h
    have h3 : (t.upd i' none).get i = some b := h2
    rw [Tr.get_upd] at h3
    by_cases e : i = i'
    · rw [if_pos e] at h3; cases h3
    · rw [if_neg e] at h3
      refine ⟨fun b'' hm => ?_, h3⟩
      rcases List.mem_cons.1 hm with e' | e'
      · exact e (Prod.mk.inj e').1
      · exact h1 _ e'

structure Chunk where
  f : FuncId
  args : List AV
  next : Nat
  have_ : Blocks
  out : AEnd
  next' : Nat
  has : Blocks

def Chunk.heap (c : Chunk) : AHeap := ⟨c.next, layAll .leaf c.have_⟩
def endBeq : AEnd → AEnd → Bool
  | .ret a, .ret b => AV.beq a b
  | .pan a, .pan b => AV.beq a b
  | _, _ => false
theorem endBeq_eq (a b : AEnd) (h : endBeq a b = true) : a = b := by
  cases a <;> cases b <;> simp only [endBeq] at h <;> first | contradiction | rw [AV.beq_eq _ _ h]
/-- it was run -/
def Chunk.ran (c : Chunk) (call : CallF) : Bool := match call c.f c.args c.heap with
  | some (r, H) => endBeq r c.out && Nat.beq H.next c.next' && holds H c.has
  | none => false
/-- it is taken -/
def Chunk.take (c : Chunk) : CallF := fun f args H =>
  bif Nat.beq f c.f && Nat.beq H.next c.next && AV.beqL args c.args && holds H c.have_ then match H with
    | ⟨_, t⟩ => some (c.out, ⟨c.next', layAll (dropAll t c.have_) c.has⟩)
  else none

section
variable {C : Cfg} {B : Nat}

theorem Chunk.ok (c : Chunk) {call : CallF} (hcall : CallOk C B call) (h : c.ran call = true) : CallOk C B c.take := by
  intro f args H r H' ht G w xs hs hg ha
  unfold Chunk.take at ht
  cases hc : (Nat.beq f c.f && Nat.beq H.next c.next && AV.beqL args c.args && holds H c.have_) with
  | false => rw [hc] at ht; cases ht
  | true =>
  rw [hc, cond_true] at ht
  simp only [Bool.and_eq_true, nbeq, decide_eq_true_iff] at hc
  obtain ⟨⟨⟨rfl, hn⟩, hargs⟩, hh⟩ := hc
  obtain rfl := AV.beqL_eq _ _ hargs
  obtain ⟨nx, t⟩ := H
  simp only [Option.some.injEq, Prod.mk.injEq] at ht
  obtain ⟨rfl, rfl⟩ := ht
  simp only at hn
  subst hn
  unfold Chunk.ran at h
  cases hr : call c.f c.args c.heap with
  | none => rw [hr] at h; cases h
  | some p =>
    obtain ⟨r, H1⟩ := p
    rw [hr] at h
    simp only [Bool.and_eq_true, nbeq, decide_eq_true_iff] at h
    obtain ⟨⟨h1, h2⟩, h3⟩ := h
    obtain rfl := endBeq_eq _ _ h1
    have hin : ∀ i b, c.heap.get i = some b → (i, b) ∈ c.have_ := fun i b hb => by
      rcases layAll_get c.have_ .leaf i b hb with h | ⟨_, h⟩
      · exact h
      · rw [Tr.get_leaf] at h; cases h
    have hsub : ∀ i b, c.heap.get i = some b → AHeap.get ⟨c.next, t⟩ i = some b := fun i b hb => holds_get hh i b (hin i b hb)
    have hs1 : Sim B G c.heap w := hs.sub hsub (Nat.le_refl _)
    refine (hcall c.f c.args c.heap _ H1 hr G w xs hs1 hg ha).mono fun e w' he => ?_
    obtain ⟨G', s', x', hend⟩ := he
    have hle := x'.le hs1
    -- what was there beside
    have hbeside : ∀ i b, (∀ b', (i, b') ∉ c.have_) → t.get i = some b → ∃ k, G.β i = some k ∧ B ≤ k ∧ ¬ G.N k ∧ BRel G w k b ∧ w'.heap[k]? = w.heap[k]? := fun i b hno hb => by
      obtain ⟨k, k1, k2, k3, k4⟩ := hs.blk i b hb
      refine ⟨k, k1, k2, k3, k4, x'.other k (hs.small _ _ k1) fun j bj hj he => ?_⟩
      have := hs.inj i j b bj k hb (hsub j bj hj) k1 he
      subst this
      exact hno _ (hin _ _ hj)
    have hget : ∀ i b, AHeap.get ⟨c.next', layAll (dropAll t c.have_) c.has⟩ i = some b → H1.get i = some b ∨ ((∀ b', (i, b') ∉ c.have_) ∧ t.get i = some b) := fun i b hb => by
      rcases layAll_get _ _ i b hb with h | ⟨_, h⟩
      · exact .inl (holds_get h3 i b h)
      · exact .inr (dropAll_get _ _ i b h)
    -- the two do not meet
    have hapart : ∀ i j bi bj k, H1.get i = some bi → (∀ b', (j, b') ∉ c.have_) → t.get j = some bj → G'.β i = some k → G'.β j = some k → False := fun i j bi bj k hi hno hj h1 h2 => by
      obtain ⟨k', k1, _⟩ := hbeside j bj hno hj
      have e := x'.β _ _ k1
      rw [h2] at e; cases e
      obtain ⟨i', bi', e1, e2⟩ := x'.live i bi k hi h1 (hs.small _ _ k1)
      have := hs.inj i' j bi' bj k (hsub _ _ e1) hj e2 k1
      subst this
      exact hno _ (hin _ _ e1)
    refine ⟨G', ⟨fun i b hb => ?_, fun i j bi bj k hi hj hk1 hk2 => ?_, fun i k hk => ?_, s'.small, s'.nsmall, s'.base⟩, ⟨⟨x'.os, x'.tape, x'.output, x'.size, x'.β, x'.N, fun b hb hno => ?_, fun i blk k hi hk hlt => ?_, x'.shape, ?_⟩, x'.fix⟩, hend⟩
    · rcases hget i b hb with h | ⟨h, h'⟩
      · exact s'.blk i b h
      · obtain ⟨k, k1, k2, k3, k4, k5⟩ := hbeside i b h h'
        exact ⟨k, x'.β _ _ k1, k2, by rw [x'.N]; exact k3, k4.mono hle k5⟩
    · rcases hget i bi hi with h | ⟨h, h'⟩ <;> rcases hget j bj hj with g | ⟨g, g'⟩
      · exact s'.inj i j bi bj k h g hk1 hk2
      · exact (hapart i j bi bj k h g g' hk1 hk2).elim
      · exact (hapart j i bj bi k g h h' hk2 hk1).elim
      · obtain ⟨k1, e1, _⟩ := hbeside i bi h h'
        obtain ⟨k2, e2, _⟩ := hbeside j bj g g'
        have f1 := x'.β _ _ e1
        have f2 := x'.β _ _ e2
        rw [hk1] at f1; cases f1
        rw [hk2] at f2; cases f2
        exact hs.inj i j bi bj k h' g' e1 e2
    · show i < c.next'
      rw [← h2]; exact s'.old i k hk
    · exact x'.other b hb fun i blk hi he => hno i blk (hsub i blk hi) he
    · rcases hget i blk hi with h | ⟨h, h'⟩
      · obtain ⟨i', blk', e1, e2⟩ := x'.live i blk k h hk hlt
        exact ⟨i', blk', hsub _ _ e1, e2⟩
      · obtain ⟨k1, e1, _⟩ := hbeside i blk h h'
        have f1 := x'.β _ _ e1
        rw [hk] at f1; cases f1
        exact ⟨i, blk, h', e1⟩
    · show c.next ≤ c.next'
      rw [← h2]; exact x'.next

/-- one of two -/
def orElse (p q : CallF) : CallF := fun f args H => match p f args H with
  | some r => some r
  | none => q f args H
theorem orElse_ok {p q : CallF} (hp : CallOk C B p) (hq : CallOk C B q) : CallOk C B (orElse p q) := by
  intro f args H r H' h
  unfold orElse at h
  cases e : p f args H with
  | some x => rw [e] at h; simp only [Option.some.injEq] at h; subst h; exact hp f args H _ _ e
  | none => rw [e] at h; exact hq f args H _ _ h
end
end Go.AX
end
section
open Go (execOp)
/- AX: functions of the library that have no body: NoEscape, IndexByteString, CountString, MakeNoZero. -/
namespace Go.AX
/-- where a byte stands first -/
def findB (c : Nat) : List Nat → Nat → Option Nat
  | [], _ => none
  | b :: r, i => bif Nat.beq b c then some i else findB c r (i + 1)
def countB (c : Nat) : List Nat → Nat → Nat
  | [], n => n
  | b :: r, n => bif Nat.beq b c then countB c r (n + 1) else countB c r n

/-- the numbers of four functions, of an element type -/
structure Exts where
  noEscape : Option Nat := none
  indexByte : Option Nat := none
  countString : Option Nat := none
  makeNoZero : Option Nat := none
  u8 : TypeId
def isF (f : Nat) : Option Nat → Bool
  | some g => Nat.beq f g
  | none => false
theorem isF_some {f : Nat} {o : Option Nat} (h : isF f o = true) : o = some f := by
  cases o with
  | none => cases h
  | some g => simp only [isF, nbeq, decide_eq_true_iff] at h; rw [h]

def noEscapeE (H : AHeap) : List AV → Option (AV × AHeap)
  | [x] => some (x, H)
  | _ => none
def indexByteE (H : AHeap) : List AV → Option (AV × AHeap)
  | [.str s, .int .u8 c] => match findB (c.toNat % 256) s 0 with
    | some i => some (.goInt i, H)
    | none => some (.goInt (-1), H)
  | _ => none
def countE (H : AHeap) : List AV → Option (AV × AHeap)
  | [.str s, .int .u8 c] => some (.goInt (countB (c.toNat % 256) s 0), H)
  | _ => none
def makeE (u8 : TypeId) (H : AHeap) : List AV → Option (AV × AHeap)
  | [.int .i64 n] => match n with
    | .ofNat m => bif m.ble roomMost then some (.slc H.next 0 m none 1, H.push (.cells [] u8 0 true)) else none
    | _ => none
  | _ => none
def Exts.ext (E : Exts) : FuncId → List AV → AHeap → Option (AV × AHeap) := fun f args H =>
  bif isF f E.noEscape then noEscapeE H args else
  bif isF f E.indexByte then indexByteE H args else
  bif isF f E.countString then countE H args else
  bif isF f E.makeNoZero then makeE E.u8 H args else none

/-- a function of the model's table -/
structure IsExt (P : Program) (f : FuncId) (e : Array Value → Sem Value) : Prop where
  is : ∃ fn, P.funcs[f]? = some fn ∧ (fn.name == "runtime.NumGoroutine") = false ∧ fn.body.isNone = true ∧ Extern.findNext fn = none ∧ Extern.find fn = some e

theorem IsExt.run {P : Program} {f : FuncId} {e : Array Value → Sem Value} (h : IsExt P f e) (args : Array Value) (w : World) : (callFunc f args).run P w = ((e args).run P w).andThen fun v w' => .ok (.value v) w' := by
  obtain ⟨fn, h1, h2, h3, h4, h5⟩ := h.is
  exact run_callFunc_extern h1 h2 h3 h4 h5 args w

theorem findB_spec (s : ByteArray) (c : Nat) (hc : c < 256) : ∀ (n i : Nat), n + i = s.size → (findB c ((s.data.toList.map UInt8.toNat).drop i) i) = (List.range' i n).find? fun j => s[j]! == UInt8.ofNat c
  | 0, i, h => by
    rw [List.drop_eq_nil_of_le (by simp; omega)]; rfl
  | n + 1, i, h => by
    have hl : i < (s.data.toList.map UInt8.toNat).length := by simp; omega
    have hi : i < s.size := by omega
    rw [List.drop_eq_getElem_cons hl, findB, List.range'_succ, List.find?_cons, nbeq]
    have e : s[i]! = s.data[i] := by
      rw [getElem!_pos s i hi]; rfl
    have e2 : (s.data.toList.map UInt8.toNat)[i] = s.data[i].toNat := by simp
    rw [e, e2]
    have e3 : decide (s.data[i].toNat = c) = (s.data[i] == UInt8.ofNat c) := by
      rw [Bool.eq_iff_iff, decide_eq_true_iff, beq_iff_eq]
      constructor
      · intro h; rw [← h]; simp
      · intro h; rw [h]; simp; omega
    rw [e3]
    cases (s.data[i] == UInt8.ofNat c) with
    | true => simp
    | false => simp only [cond_false]; exact findB_spec s c hc n (i + 1) (by omega)

theorem countB_spec (c : Nat) (hc : c < 256) : ∀ (l : List UInt8) (n : Nat), countB c (l.map UInt8.toNat) n = n + Lib.countByte l (UInt8.ofNat c)
  | [], n => rfl
  | b :: r, n => by
    rw [List.map_cons, countB, nbeq]
    unfold Lib.countByte
    rw [List.count_cons]
    have e3 : decide (b.toNat = c) = (b == UInt8.ofNat c) := by
      rw [Bool.eq_iff_iff, decide_eq_true_iff, beq_iff_eq]
      constructor
      · intro h; rw [← h]; simp
      · intro h; rw [h]; simp; omega
    rw [e3]
    cases (b == UInt8.ofNat c) with
    | true => simp only [cond_true, if_true]; rw [countB_spec c hc r (n + 1)]; unfold Lib.countByte; omega
    | false => simp only [cond_false, Bool.false_eq_true, if_false]; rw [countB_spec c hc r n]; unfold Lib.countByte; omega

theorem toUInt8_mod (n : Int) : n.toNat.toUInt8 = UInt8.ofNat (n.toNat % 256) := by
  apply UInt8.toNat_inj.1
  simp

section
variable {C : Cfg} {P : Program} {B : Nat} {G : Ghost} {H : AHeap} {w : World}

theorem repL_one {v : AV} {xs : List Value} (h : RepL G w [v] xs) : ∃ x, xs = [x] ∧ Rep G w v x := by
  simp only [RepL] at h
  obtain ⟨x, ys, rfl, hx, rfl⟩ := h
  exact ⟨x, rfl, hx⟩
theorem repL_two {u v : AV} {xs : List Value} (h : RepL G w [u, v] xs) : ∃ x y, xs = [x, y] ∧ Rep G w u x ∧ Rep G w v y := by
  simp only [RepL] at h
  obtain ⟨x, ys, rfl, hx, y, zs, rfl, hy, rfl⟩ := h
  exact ⟨x, y, rfl, hx, hy⟩

theorem exts_ok (E : Exts) (hC : C.ext = E.ext) (h1 : ∀ f, E.noEscape = some f → IsExt C.P f Extern.AbiNoEscape.same) (h2 : ∀ f, E.indexByte = some f → IsExt C.P f Extern.BytealgIndexByte.indexByte)
    (h3 : ∀ f, E.countString = some f → IsExt C.P f Extern.BytealgCount.count) (h4 : ∀ f, E.makeNoZero = some f → ∃ ps t, IsExt C.P f (Extern.BytealgMakeNoZero.makeNoZero ps #[t]) ∧ C.P.underlying t = some (.slice E.u8)) : ExtOk C := by
  intro f args H v H' h B G w xs hs ha
  rw [hC] at h
  unfold Exts.ext at h
  cases e1 : isF f E.noEscape with
  | true =>
    replace h1 := h1 f (isF_some e1)
    rw [e1] at h
    simp only [cond_true] at h
    unfold noEscapeE at h
    split at h <;> try contradiction
    simp only [Option.some.injEq, Prod.mk.injEq] at h
    obtain ⟨rfl, rfl⟩ := h
    obtain ⟨x, rfl, hx⟩ := repL_one ha
    refine ⟨x, w, G, ?_, hs, Ext.refl _ _ _ _, hx⟩
    rw [h1.run]; rfl
  | false =>
  rw [e1] at h
  simp only [cond_false] at h
  cases e2 : isF f E.indexByte with
  | true =>
    replace h2 := h2 f (isF_some e2)
    rw [e2] at h
    simp only [cond_true] at h
    unfold indexByteE at h
    split at h <;> try contradiction
    rename_i s c
    obtain ⟨x, y, rfl, hx, hy⟩ := repL_two ha
    simp only [Rep] at hx hy
    obtain ⟨b, rfl, rfl⟩ := hx
    subst hy
    have hrun : (callFunc f ⟨[.string b, .int .u8 c]⟩).run C.P w = .ok (.value (.int .i64 (firstIdx b c.toNat.toUInt8))) w := by
      rw [h2.run, run_indexByte_string]; rfl
    have hf : findB (c.toNat % 256) (b.data.toList.map UInt8.toNat) 0 = (List.range b.size).find? fun j => b[j]! == c.toNat.toUInt8 := by
      have := findB_spec b (c.toNat % 256) (by omega) b.size 0 (by omega)
      rw [List.drop_zero] at this
      rw [this, toUInt8_mod, List.range_eq_range']
    rw [hf] at h
    unfold firstIdx at hrun
    cases hh : (List.range b.size).find? fun j => b[j]! == c.toNat.toUInt8 with
    | none =>
      rw [hh] at h hrun
      simp only [Option.some.injEq, Prod.mk.injEq] at h
      obtain ⟨rfl, rfl⟩ := h
      exact ⟨_, w, G, hrun, hs, Ext.refl _ _ _ _, by simp [AV.goInt, Rep]⟩
    | some i =>
      rw [hh] at h hrun
      simp only [Option.some.injEq, Prod.mk.injEq] at h
      obtain ⟨rfl, rfl⟩ := h
      exact ⟨_, w, G, hrun, hs, Ext.refl _ _ _ _, by simp [AV.goInt, Rep]⟩
  | false =>
  rw [e2] at h
  simp only [cond_false] at h
  cases e3 : isF f E.countString with
  | true =>
    replace h3 := h3 f (isF_some e3)
    rw [e3] at h
    simp only [cond_true] at h
    unfold countE at h
    split at h <;> try contradiction
    rename_i s c
    simp only [Option.some.injEq, Prod.mk.injEq] at h
    obtain ⟨rfl, rfl⟩ := h
    obtain ⟨x, y, rfl, hx, hy⟩ := repL_two ha
    simp only [Rep] at hx hy
    obtain ⟨b, rfl, rfl⟩ := hx
    subst hy
    refine ⟨.int .i64 (countB (c.toNat % 256) (b.data.toList.map UInt8.toNat) 0), w, G, ?_, hs, Ext.refl _ _ _ _, by simp [AV.goInt, Rep]⟩
    rw [h3.run, countB_spec _ (by omega), ← toUInt8_mod, Lib.run_countString, Nat.zero_add]
    rfl
  | false =>
  rw [e3] at h
  simp only [cond_false] at h
  cases e4 : isF f E.makeNoZero with
  | true =>
    replace h4 := h4 f (isF_some e4)
    rw [e4] at h
    simp only [cond_true] at h
    unfold makeE at h
    split at h <;> try contradiction
    rename_i n
    split at h <;> try contradiction
    rename_i m
    obtain ⟨hm, h⟩ := cond_some h
    rw [ble_dec, decide_eq_true_iff] at hm
    simp only [Option.some.injEq, Prod.mk.injEq] at h
    obtain ⟨rfl, rfl⟩ := h
    obtain ⟨x, rfl, hx⟩ := repL_one ha
    simp only [Rep] at hx
    subst hx
    obtain ⟨ps, t, hext, ht⟩ := h4
    have hroom : roomMost ≤ 281474976710656 := by decide
    obtain ⟨cs, hrun, hn, _⟩ := Lib.run_makeNoZero (P := C.P) w ps t E.u8 ht m (by omega)
    obtain ⟨s1, x1, _⟩ := hs.drew (w.drawn + 1)
    obtain ⟨s2, x2, _⟩ := s1.drew (w.drawn + 1 + 1)
    have hw2 : w.drew.drew = { w with drawn := w.drawn + 1 + 1 } := rfl
    obtain ⟨G', g1, g2, g3⟩ := s2.push (ob := .cells cs E.u8) (blk := .cells [] E.u8 0 true) (by
      refine ⟨cs.toList, (0, 0), ?_, by simp, by simp [RepL], fun o _ _ => by simp, fun _ => rfl⟩
      show ((plus _ _).heap)[_]? = _
      simp [plus])
    refine ⟨.slice (some ⟨w.heap.size, 0, none⟩) m cs.size, _, G', ?_, g2, (x1.trans x2).trans g3, ?_⟩
    · rw [hext.run]
      show ((Extern.BytealgMakeNoZero.makeNoZero ps #[t] #[.int .i64 (m : Int)]).run C.P w).andThen _ = _
      rw [hrun]; rfl
    · simp only [Rep]
      exact ⟨w.heap.size, cs.size, g1, rfl, hn, fun _ hh => (by cases hh), fun _ => ⟨cs, E.u8, (0, 0), by
        show ((plus _ _).heap)[_]? = _
        simp [plus], by simp⟩⟩
  | false =>
  rw [e4] at h
  simp at h
end
end Go.AX
end
section
open Go (execOp)
/- AX: strings.Index by its contract. -/
namespace Go.AX
def prefN : List Nat → List Nat → Bool
  | [], _ => true
  | _ :: _, [] => false
  | a :: b, x :: y => Nat.beq a x && prefN b y
/-- where a text stands first -/
def idxN (sub : List Nat) : List Nat → Nat → Option Nat
  | [], i => match sub with
    | [] => some i
    | _ :: _ => none
  | x :: r, i => bif prefN sub (x :: r) then some i else idxN sub r (i + 1)
def idxV : Option Nat → AV
  | some i => .goInt i
  | none => .goInt (-1)
/-- functions that tell where a text stands first -/
def indexP (fs : List Nat) : CallF := fun f args H => bif fs.any (Nat.beq f) then match args with
    | [.str s, .str t] => bif s.length.ble 4000000 then some (.ret (idxV (idxN t s 0)), H) else none
    | _ => none
  else none

theorem prefN_spec : ∀ (sub l : List UInt8), prefN (sub.map UInt8.toNat) (l.map UInt8.toNat) = sub.isPrefixOf l
  | [], l => by cases l <;> rfl
  | a :: b, [] => rfl
  | a :: b, x :: y => by
    simp only [List.map_cons, prefN, List.isPrefixOf, prefN_spec b y, nbeq]
    congr 1
    rw [Bool.eq_iff_iff, decide_eq_true_iff, beq_iff_eq]
    exact ⟨UInt8.toNat_inj.1, fun h => by rw [h]⟩

theorem idxN_spec (sub : List UInt8) : ∀ (l : List UInt8) (i : Nat), idxN (sub.map UInt8.toNat) (l.map UInt8.toNat) i = if Lib.index l sub = -1 then none else some (i + (Lib.index l sub).toNat)
  | [], i => by
    unfold Lib.index
    cases sub <;> simp [idxN]
  | b :: l, i => by
    have hg := Lib.index_ge l sub
    have h1 := idxN_spec sub l (i + 1)
    have e : Lib.index (b :: l) sub = if sub.isPrefixOf (b :: l) then 0 else if Lib.index l sub == -1 then -1 else Lib.index l sub + 1 := rfl
    rw [List.map_cons, idxN, ← List.map_cons, prefN_spec, h1, e]
    cases sub.isPrefixOf (b :: l) with
    | true => simp
    | false =>
      simp only [cond_false, Bool.false_eq_true, if_false, beq_iff_eq]
      by_cases h : Lib.index l sub = -1
      · simp [h]
      · rw [if_neg h, if_neg h, if_neg (by omega)]
        congr 1
        omega

theorem idxV_spec (s sub : List UInt8) : idxV (idxN (sub.map UInt8.toNat) (s.map UInt8.toNat) 0) = .goInt (Lib.index s sub) := by
  rw [idxN_spec]
  have := Lib.index_ge s sub
  by_cases h : Lib.index s sub = -1
  · rw [if_pos h, h]; rfl
  · rw [if_neg h]
    show AV.goInt _ = _
    congr 1
    omega

section
variable {C : Cfg} {B : Nat}
theorem indexP_ok {fs : List Nat} {g : Nat} {m : Int} (hg : C.glob g = some [.int .i64 m])
    (h : ∀ f ∈ fs, ∀ (s sub : ByteArray) (w : World), s.size < 4294967281 → w.cell? ⟨g, 0, none⟩ = some (.int .i64 m) →
      Calls C.P f #[.string s, .string sub] w fun e w' => e = .returned (.int .i64 (Lib.index s.data.toList sub.data.toList)) ∧ w' = w) : CallOk C B (indexP fs) := by
  intro f args H r H' hr G w xs hs hgl ha
  unfold indexP at hr
  cases hf : fs.any (Nat.beq f) with
  | false => rw [hf] at hr; cases hr
  | true =>
    rw [hf, cond_true] at hr
    split at hr <;> try contradiction
    rename_i s t
    obtain ⟨hl, hr⟩ := cond_some hr
    rw [ble_dec, decide_eq_true_iff] at hl
    simp only [Option.some.injEq, Prod.mk.injEq] at hr
    obtain ⟨rfl, rfl⟩ := hr
    obtain ⟨x, y, rfl, hx, hy⟩ := repL_two ha
    simp only [Rep] at hx hy
    obtain ⟨b, rfl, rfl⟩ := hx
    obtain ⟨c, rfl, rfl⟩ := hy
    obtain ⟨k, hk, e⟩ := List.any_eq_true.1 hf
    rw [nbeq, decide_eq_true_iff] at e
    subst e
    have hcell : w.cell? ⟨g, 0, none⟩ = some (.int .i64 m) := by
      have := hgl g _ hg
      simp only [Rep, RepL] at this
      obtain ⟨b', off, vs, e1, _, ⟨y, ys, rfl, rfl, rfl⟩, hc⟩ := this
      cases e1
      simpa using hc 0 _ rfl
    refine (h f hk b c w (by simp at hl; have : b.size = b.data.size := rfl; omega) hcell).mono fun e w' he => ?_
    obtain ⟨rfl, rfl⟩ := he
    refine ⟨G, hs, Ext.refl _ _ _ _, ?_⟩
    rw [idxV_spec]
    simp [EndRep, AV.goInt, Rep]
end
end Go.AX
end
section
open Go (execOp)
/- AX: a call that is known to come to a value and to touch nothing that was there: it may be taken in any state. -/
namespace Go.AX
section
variable {C : Cfg} {B : Nat} {G : Ghost} {H : AHeap} {w w' : World}

theorem Sim.grown (hs : Sim B G H w) (hb : RowKit.Below w.heap.size w w') : Sim B G H w' ∧ Ext B H G w H G w' := by
  have hle : Le G w G w' := ⟨fun _ _ h => h, fun _ h => h, fun b hN => hb.block b (hs.nsmall b hN), fun b c t f h => ⟨c, f, (hb.block b (Array.getElem?_eq_some_iff.1 h).1).trans h, rfl⟩⟩
  refine ⟨⟨fun i b hi => ?_, hs.inj, hs.old, fun i k hk => Nat.lt_of_lt_of_le (hs.small i k hk) hb.size, fun b hN => Nat.lt_of_lt_of_le (hs.nsmall b hN) hb.size, Nat.le_trans hs.base hb.size⟩,
    ⟨⟨hb.os, hb.tape, hb.output, hb.size, fun _ _ h => h, rfl, fun b hlt _ => hb.block b hlt, fun i blk k hi hk _ => ⟨i, blk, hi, hk⟩, hle.shape, Nat.le_refl _⟩, fun _ _ h => h⟩⟩
  obtain ⟨k, k1, k2, k3, k4⟩ := hs.blk i b hi
  exact ⟨k, k1, k2, k3, k4.mono hle (hb.block k (hs.small _ _ k1))⟩

/-- a function of no arguments that comes to true -/
def trueP (f : FuncId) : CallF := fun g args H => bif Nat.beq g f then match args with
    | [] => some (.ret (.bool true), H)
    | _ => none
  else none

theorem trueP_ok {f : FuncId} (h : ∀ (G : Ghost) (w : World), GlobOk C G w → (∀ b, G.N b → b < w.heap.size) → Calls C.P f ⟨[]⟩ w fun e w' => e = .returned (.bool true) ∧ RowKit.Below w.heap.size w w') : CallOk C B (trueP f) := by
  intro g args H r H' hr G w xs hs hg ha
  unfold trueP at hr
  rw [nbeq] at hr
  by_cases e : g = f
  · subst e
    simp only [decide_true, cond_true] at hr
    split at hr <;> try contradiction
    simp only [Option.some.injEq, Prod.mk.injEq] at hr
    obtain ⟨rfl, rfl⟩ := hr
    simp only [RepL] at ha
    subst ha
    refine (h G w hg hs.nsmall).mono fun e w' he => ?_
    obtain ⟨rfl, hb⟩ := he
    obtain ⟨s', x'⟩ := hs.grown hb
    exact ⟨G, s', x', by simp [EndRep, Rep]⟩
  · simp [e] at hr

/-- what is known of the table holds whatever ghosts are known -/
theorem GlobOk.start {N : Nat → Prop} (hg : GlobOk C G w) (hN : ∀ g cs, C.glob g = some cs → N g) (hone : ∀ g cs, C.glob g = some cs → ∀ v ∈ cs, AV.plain1 v = true) : GlobOk C (.start N) w := by
  intro g cs hgc
  have h := hg g cs hgc
  have hp := hone g cs hgc
  have h1 := hN g cs hgc
  simp only [Rep] at h ⊢
  obtain ⟨b, off, vs, e, _, hr, hc⟩ := h
  cases e
  refine ⟨g, 0, vs, rfl, h1, ?_, hc⟩
  clear hgc h1 hc
  induction cs generalizing vs with
  | nil => simpa [RepL] using hr
  | cons c cs ih =>
    simp only [RepL] at hr ⊢
    obtain ⟨y, ys, rfl, hy, hys⟩ := hr
    refine ⟨y, ys, rfl, ?_, ih (fun v hv => hp v (List.mem_cons_of_mem _ hv)) ys hys⟩
    have := hp c List.mem_cons_self
    cases c <;> simp only [AV.plain1, Bool.false_eq_true] at this <;> simpa only [Rep] using hy
end
end Go.AX
end
section
open Go (execOp)
/- AX: a call on plain values that was run for itself: it may be taken wherever its arguments lie within. -/
namespace Go.AX
/-- what it says hangs on no memory -/
def flat : AV → Bool
  | .bool _ | .int _ _ | .str _ | .one | .rng _ _ | .nilp | .snil | .nmap | .nilFunc | .nilIface => true
  | _ => false
/-- the first says at least what the second says -/
def within (a b : AV) : Bool := match b with
  | .rng k h => match viewR a with
    | some (k', n) => decide (k' = k) && n.ble h
    | none => false
  | b => flat b && AV.beq a b
def withinL : List AV → List AV → Bool
  | [], [] => true
  | a :: x, b :: y => within a b && withinL x y
  | _, _ => false
structure Memo where
  f : FuncId
  pats : List AV
  out : AV
def Memo.ran (m : Memo) (call : CallF) : Bool := match call m.f m.pats .empty with
  | some (.ret v, _) => AV.beq v m.out && flat m.out
  | _ => false
def Memo.take (m : Memo) : CallF := fun f args H => bif Nat.beq f m.f && withinL args m.pats then some (.ret m.out, H) else none

section
variable {C : Cfg} {B : Nat} {G G' : Ghost} {w w' : World}
theorem flat_rep {v : AV} (hf : flat v = true) {x : Value} (h : Rep G w v x) : Rep G' w' v x := by
  cases v <;> simp only [flat, Bool.false_eq_true] at hf <;> simpa only [Rep] using h
theorem within_rep {a b : AV} (h : within a b = true) {x : Value} (hx : Rep G w a x) : Rep G' w' b x := by
  unfold within at h
  split at h
  · rename_i k hi
    split at h <;> try contradiction
    rename_i k' n hv
    simp only [Bool.and_eq_true, decide_eq_true_iff, ble_dec] at h
    obtain ⟨rfl, hn⟩ := h
    obtain ⟨m, rfl, hm⟩ := viewR_sound hv hx
    simp only [Rep]
    exact ⟨m, rfl, Nat.le_trans hm hn⟩
  · simp only [Bool.and_eq_true] at h
    rw [AV.beq_eq _ _ h.2] at hx
    exact flat_rep h.1 hx
theorem withinL_rep : ∀ {a b : List AV} {xs : List Value}, withinL a b = true → RepL G w a xs → RepL G' w' b xs
  | [], [], xs, _, h => by simpa [RepL] using h
  | [], _ :: _, _, h, _ => by simp [withinL] at h
  | _ :: _, [], _, h, _ => by simp [withinL] at h
  | a :: x, b :: y, xs, h, hr => by
    simp only [withinL, Bool.and_eq_true] at h
    simp only [RepL] at hr ⊢
    obtain ⟨z, zs, rfl, hz, hzs⟩ := hr
    exact ⟨z, zs, rfl, within_rep h.1 hz, withinL_rep h.2 hzs⟩

theorem GlobOk.flat {N : Nat → Prop} (hg : GlobOk C G w) (hN : ∀ g cs, C.glob g = some cs → N g) (hone : ∀ g cs, C.glob g = some cs → ∀ v ∈ cs, AX.flat v = true) : GlobOk C (.start N) w := by
  intro g cs hgc
  have h := hg g cs hgc
  have hp := hone g cs hgc
  have h1 := hN g cs hgc
  simp only [Rep] at h ⊢
  obtain ⟨b, off, vs, e, _, hr, hc⟩ := h
  cases e
  refine ⟨g, 0, vs, rfl, h1, ?_, hc⟩
  clear hgc h1 hc
  induction cs generalizing vs with
  | nil => simpa [RepL] using hr
  | cons c cs ih =>
    simp only [RepL] at hr ⊢
    obtain ⟨y, ys, rfl, hy, hys⟩ := hr
    exact ⟨y, ys, rfl, flat_rep (hp c List.mem_cons_self) hy, ih (fun v hv => hp v (List.mem_cons_of_mem _ hv)) ys hys⟩

theorem Memo.ok (m : Memo) {call : CallF} (hcall : ∀ B, CallOk C B call) (hone : ∀ g cs, C.glob g = some cs → ∀ v ∈ cs, AX.flat v = true) (h : m.ran call = true) : CallOk C B m.take := by
  intro f args H r H' ht G w xs hs hg ha
  unfold Memo.take at ht
  cases hc : (Nat.beq f m.f && withinL args m.pats) with
  | false => rw [hc] at ht; cases ht
  | true =>
  rw [hc, cond_true] at ht
  simp only [Bool.and_eq_true, nbeq, decide_eq_true_iff] at hc
  obtain ⟨rfl, hw⟩ := hc
  simp only [Option.some.injEq, Prod.mk.injEq] at ht
  obtain ⟨rfl, rfl⟩ := ht
  unfold Memo.ran at h
  split at h <;> try contradiction
  rename_i v H1 hr
  simp only [Bool.and_eq_true] at h
  obtain ⟨hv, hf⟩ := h
  obtain rfl := AV.beq_eq _ _ hv
  have hN : ∀ b, G.N b → b < w.heap.size := hs.nsmall
  have hg' : GlobOk C (.start G.N) w := hg.flat (fun g cs hgc => by
    have := hg g cs hgc
    simp only [Rep] at this
    obtain ⟨b, off, vs, e, hn, _⟩ := this
    cases e; exact hn) hone
  refine (hcall w.heap.size m.f m.pats .empty _ H1 hr (.start G.N) w xs (Sim.start hN) hg' (withinL_rep hw ha)).mono fun e w' he => ?_
  obtain ⟨G1, s1, x1, hend⟩ := he
  obtain ⟨s2, x2⟩ := hs.grown (x1.below (Sim.start hN))
  refine ⟨G, s2, x2, ?_⟩
  cases e <;> simp only [EndRep] at hend ⊢
  exact flat_rep hf hend
end
end Go.AX
end
section
open Go (execOp)
/- AX: package-level variables: what a row's first world says of them; the row's wrap that keeps both its condition and the world's shape. -/
namespace Go.AX
section
variable {P : Program} {w : World}

/-- cells of a variable of whole numbers of one kind, whatever they hold -/
theorem cells_of_shape {g n : Nat} {t : TypeId} {zero : Array Value} {k : IntKind} {ts : List TypeId} (h : w.ShapedOpen P) (hg : g < P.globals.size)
    (h0 : ((begin P (fun _ _ => 0) default).world.heap[g]?).bind Obj.row? = some (zero, t)) (hz : zero.size = n) (hb : P.buildable t = true) (hc : P.cellTypes P.depth t = some ts)
    (hts : ts.all (fun u => match P.underlying u with | some (.int k') => decide (k' = k) | _ => false) = true) :
    ∀ j, j < n → ∃ m : Int, w.cell? ⟨g, j, none⟩ = some (.int k m) ∧ k.has m := by
  obtain ⟨cs, hh, hs, hr⟩ := h.1 g zero t hg h0
  obtain ⟨ts', hts', _, hall⟩ := hr hb
  rw [hc] at hts'
  cases hts'
  intro j hj
  have h1 : j < cs.size := by omega
  obtain ⟨u, hu', hok⟩ := hall j cs[j] (by simp [h1])
  have hu := List.all_eq_true.1 hts u (List.mem_of_getElem? hu')
  have hcell : w.cell? ⟨g, j, none⟩ = some cs[j] := by simp [World.cell?, hh, h1]
  cases hk : P.underlying u with
  | none => rw [hk] at hu; simp at hu
  | some d =>
    rw [hk] at hu
    cases d <;> simp only [Bool.false_eq_true, decide_eq_true_iff] at hu
    subst hu
    unfold Cell.ok at hok
    rw [hk] at hok
    split at hok <;> simp_all

/-- cells from a place on, as numbers within the kind -/
theorem rngs_of_cells {k : IntKind} (hk : k.signed = false) {g : Nat} {G : Ghost} : ∀ (n off : Nat), (∀ j, j < n → ∃ m : Int, w.cell? ⟨g, off + j, none⟩ = some (.int k m) ∧ k.has m) →
    ∃ vs : List Value, RepL G w (repeatL n [.rng k (topOf k)]) vs ∧ cellsAt w g off vs
  | 0, off, _ => ⟨[], by simp [repeatL, RepL], fun j v h => by simp at h⟩
  | n + 1, off, h => by
    obtain ⟨m, hm, hr⟩ := h 0 (by omega)
    obtain ⟨vs, h1, h2⟩ := rngs_of_cells hk n (off + 1) (fun j hj => by
      have := h (j + 1) (by omega)
      rw [show off + 1 + j = off + (j + 1) by omega]; exact this)
    refine ⟨.int k m :: vs, ?_, fun j v hv => ?_⟩
    · simp only [repeatL, List.cons_append, List.nil_append, RepL]
      refine ⟨_, vs, rfl, ?_, h1⟩
      simp only [Rep]
      obtain ⟨h3, h4⟩ := hr
      have e1 : k.min = 0 := by simp [IntKind.min, hk]
      have e2 : k.max = (topOf k : Nat) := by cases k <;> first | (exact absurd hk (by decide)) | rfl
      exact ⟨m.toNat, by congr 1; omega, by omega⟩
    · cases j with
      | zero => simp only [List.getElem?_cons_zero, Option.some.injEq] at hv; subst hv; exact hm
      | succ j =>
        have := h2 j v (by simpa using hv)
        rw [show off + (j + 1) = off + 1 + j by omega]; exact this

/-- known cells -/
theorem ints_of_cells {k : IntKind} {g : Nat} {G : Ghost} {ns : List Int} (hw : ∀ (j : Nat) n, ns[j]? = some n → w.cell? ⟨g, j, none⟩ = some (.int k n)) :
    ∃ vs : List Value, RepL G w (ns.map fun n => .int k n) vs ∧ cellsAt w g 0 vs := by
  refine ⟨ns.map fun n => .int k n, ?_, ?_⟩
  · clear hw
    induction ns with
    | nil => simp [RepL]
    | cons n ns ih => simp only [List.map_cons, RepL]; exact ⟨_, _, rfl, by simp [Rep], ih⟩
  · intro j v hv
    rw [List.getElem?_map, Option.map_eq_some_iff] at hv
    obtain ⟨n, hn, rfl⟩ := hv
    rw [Nat.zero_add]; exact hw j n hn

theorem globOk_of {C : Cfg} {N : Nat → Prop} (h : ∀ g cs, C.glob g = some cs → N g ∧ ∃ vs, RepL (.start N) w cs vs ∧ cellsAt w g 0 vs) : GlobOk C (.start N) w := by
  intro g cs hg
  obtain ⟨h1, vs, h2, h3⟩ := h g cs hg
  simp only [Rep]
  exact ⟨g, 0, vs, rfl, h1, h2, h3⟩

theorem small_of_shape {g : Nat} {t : TypeId} {zero : Array Value} (h : w.ShapedOpen P) (hg : g < P.globals.size) (h0 : ((begin P (fun _ _ => 0) default).world.heap[g]?).bind Obj.row? = some (zero, t)) : g < w.heap.size := by
  obtain ⟨cs, hh, _⟩ := h.1 g zero t hg h0
  exact (Array.getElem?_eq_some_iff.1 hh).1
end

/-- a table of what is known of variables -/
def globOf : List (Nat × List AV) → Nat → Option (List AV)
  | [], _ => none
  | (g, cs) :: r, x => bif Nat.beq x g then some cs else globOf r x
theorem globOf_mem : ∀ {l : List (Nat × List AV)} {g : Nat} {cs : List AV}, globOf l g = some cs → (g, cs) ∈ l
  | [], _, _, h => by cases h
  | (g', cs') :: r, g, cs, h => by
    rw [globOf, nbeq] at h
    by_cases e : g = g'
    · subst e
      simp only [decide_true, cond_true, Option.some.injEq] at h
      subst h
      exact List.mem_cons_self
    · simp only [e, decide_false, cond_false] at h
      exact List.mem_cons_of_mem _ (globOf_mem h)
theorem globOf_flat {l : List (Nat × List AV)} (h : (l.all fun p => p.2.all flat) = true) : ∀ g cs, globOf l g = some cs → ∀ v ∈ cs, flat v = true :=
  fun _ _ hg v hv => List.all_eq_true.1 (List.all_eq_true.1 h _ (globOf_mem hg)) v hv

theorem callK_ok {C : Cfg} {prims : CallF} (hmix : C.P.follows .mixedOrders = true) (hext : ExtOk C) (hp : ∀ B, CallOk C B prims) (fuel n : Nat) : ∀ B, CallOk C B (callK C prims fuel n) :=
  fun B => by rw [callK_eq]; exact callF_sound hmix hext (hp B) fuel n

theorem callsK_true {C : Cfg} {w : World} {prims : CallF} (hmix : C.P.follows .mixedOrders = true) (hext : ExtOk C) (hp : ∀ B, CallOk C B prims) {fuel n : Nat} {f : FuncId} {args : List AV} {xs : List Value} {N : Nat → Prop}
    (hN : ∀ b, N b → b < w.heap.size) (hg : GlobOk C (.start N) w) (ha : RepL (.start N) w args xs) (h : saysTrue (callK C prims fuel n f args .empty) = true) :
    Calls C.P f ⟨xs⟩ w fun e w' => e = .returned (.bool true) ∧ RowKit.Below w.heap.size w w' := by
  rw [callK_eq] at h
  exact calls_true hmix hext (hp _) hN hg ha h

/-- The row's wrap, that hands on both the row's condition and the world's shape. -/
theorem handed_full {H : Type} {enc : TypeId × Value → H} {a : Assume} {C : Checked} {os : Os} {f : FuncId} {fn : Func} {s : ChangeSpec} {conds : List PathCond} {apart fresh handsOn again : Bool} {X : World → Array Value → Prop}
    (hX : ∀ (w w' : World) (args : Array Value), w.heap = w'.heap → X w args → X w' args)
    (own : ownKnob C.prog.godebug = none) (started : os.Started) (noInit : C.prog.inits.idxOf? f = none) (hfn : C.prog.funcs[f]? = some fn)
    (witness : ∃ (w : World) (tape : Tape) (i : Input), w.os = os ∧ (w.forCall tape i).Shaped C.prog ∧ i.vars = [] ∧ Input.okWide C.prog (w.forCall tape i) .any w.heap.size f i ∧
      ((s.pre enc C.prog fn conds apart (w.forCall tape i).memory i.args ∧ X (w.forCall tape i).memory i.args) ∧ sizedMet enc C.prog fn (OpenSpec.ofChange s) apart (w.forCall tape i).memory i.args) ∧ a.holds C.prog (lone (Frame.enter C.prog f i.args .normal) [] (w.forCall tape i)))
    (contract : ∀ (W : World) (base : Nat) (args : Array Value) (ds gs : List (DataW H)) (before : List MemPlace),
      (∀ (j : Nat) t v, fn.params[j]? = some t → args[j]? = some v → Value.okWide C.prog W .any base t v) →
      DataW.Whole enc C.prog fn.params.toList s.vars apart W args.toList ds gs before →
      (DataW.weightsEach C.prog (fn.params.toList ++ s.plain.varTypes C.prog) (ds ++ gs)).all (· ≤ reachBytes) = true → X W args → W.ShapedOpen C.prog →
      Calls C.prog f args W fun e W' => ∃ v, e = .returned v ∧ s.post enc C.prog fn apart fresh handsOn again W args v W') :
    ReturnsInHanded a C os f .any (fun w args => (s.pre enc C.prog fn conds apart w args ∧ X w args) ∧ sizedMet enc C.prog fn (OpenSpec.ofChange s) apart w args) (s.post enc C.prog fn apart fresh handsOn again) := by
  refine returnsInHanded_of_calls own started noInit witness ?_
  intro w tape i _ hsh _ hok hpre _
  obtain ⟨_, _, _, fn', hfn', _, _, _, _, hval⟩ := hok
  obtain rfl : fn' = fn := Option.some.inj (hfn'.symm.trans hfn)
  obtain ⟨⟨⟨ds, gs, before, hw, _⟩, hx⟩, hz⟩ := hpre
  refine (contract (w.forCall tape i) w.heap.size i.args ds gs before hval (DataW.Whole.of_heap (by rfl) hw) (hz.weights hw) (hX _ _ _ (by rfl) hx) hsh).mono fun e W' he => ?_
  obtain ⟨v, rfl, hp⟩ := he
  exact ChangeSpec.post_blind hp
end Go.AX
end
