/- AX: an executor over an abstract heap for the model's programs, and its soundness: part 3: AxChg, AxUstr, AxChg2, AxStep, AxOpsS, AxCanon, AxDid, AxPair, AxDraw, AxFrame, AxAdd, AxTurn. No condition: each theorem states its own premises. -/
import Derived.Recover
import Derived.RangeFuncLeaves
import Derived.Test.YtllkmclobkamkaaGreatDoorAx2
set_option linter.unusedSimpArgs false
set_option linter.unusedVariables false
set_option linter.unnecessarySimpa false
section
open Go (execOp)
/- AX: kind 2, but for calls. -/
namespace Go.AX

mutual
theorem AV.beq_eq : ∀ (a b : AV), AV.beq a b = true → a = b
  | .bool a, b, h => by cases b <;> simp only [AV.beq] at h <;> (try contradiction); simp at h; rw [h]
  | .int k n, b, h => by cases b <;> simp only [AV.beq] at h <;> (try contradiction); simp at h; rw [h.1, h.2]
  | .str s, b, h => by cases b <;> simp only [AV.beq] at h <;> (try contradiction); rw [natsBeq_eq] at h; simp at h; rw [h]
  | .nilp, b, h => by cases b <;> simp only [AV.beq] at h <;> first | rfl | contradiction
  | .snil, b, h => by cases b <;> simp only [AV.beq] at h <;> first | rfl | contradiction
  | .emp, b, h => by cases b <;> simp only [AV.beq] at h <;> first | rfl | contradiction
  | .nmap, b, h => by cases b <;> simp only [AV.beq] at h <;> first | rfl | contradiction
  | .nilFunc, b, h => by cases b <;> simp only [AV.beq] at h <;> first | rfl | contradiction
  | .nilIface, b, h => by cases b <;> simp only [AV.beq] at h <;> first | rfl | contradiction
  | .ptr a o, b, h => by cases b <;> simp only [AV.beq] at h <;> (try contradiction); simp [nbeq] at h; rw [h.1, h.2]
  | .lptr a, b, h => by cases b <;> simp only [AV.beq] at h <;> (try contradiction); rw [AV.beqL_eq _ _ h]
  | .slc a o l c e, b, h => by cases b <;> simp only [AV.beq] at h <;> (try contradiction); simp [nbeq] at h; obtain ⟨⟨⟨⟨h1, h2⟩, h3⟩, h4⟩, h5⟩ := h; rw [h1, h2, h3, h4, h5]
  | .lst a n, b, h => by cases b <;> simp only [AV.beq] at h <;> (try contradiction); simp only [Bool.and_eq_true] at h; rw [AV.beqL_eq _ _ h.1]; have := h.2; rw [nbeq, decide_eq_true_iff] at this; rw [this]
  | .map a, b, h => by cases b <;> simp only [AV.beq] at h <;> (try contradiction); simp [nbeq] at h; rw [h]
  | .func f a c, b, h => by
    cases b <;> simp only [AV.beq] at h <;> (try contradiction)
    simp only [Bool.and_eq_true, decide_eq_true_iff] at h
    rw [h.1.1, AV.beqL_eq _ _ h.1.2, AV.beqL_eq _ _ h.2]
  | .iface t a, b, h => by
    cases b <;> simp only [AV.beq] at h <;> (try contradiction)
    simp only [Bool.and_eq_true, nbeq, decide_eq_true_iff] at h
    rw [h.1, AV.beq_eq _ _ h.2]
  | .agg a, b, h => by cases b <;> simp only [AV.beq] at h <;> (try contradiction); rw [AV.beqL_eq _ _ h]
  | .tuple a, b, h => by cases b <;> simp only [AV.beq] at h <;> (try contradiction); rw [AV.beqL_eq _ _ h]
  | .raw _, b, h => by cases b <;> simp only [AV.beq] at h <;> contradiction
  | .opq, b, h => by cases b <;> simp only [AV.beq] at h <;> first | rfl | contradiction
  | .one, b, h => by cases b <;> simp only [AV.beq] at h <;> first | rfl | contradiction
  | .rng k a, b, h => by cases b <;> simp only [AV.beq] at h <;> (try contradiction); simp [nbeq] at h; rw [h.1, h.2]
theorem AV.beqL_eq : ∀ (a b : List AV), AV.beqL a b = true → a = b
  | [], b, h => by cases b <;> simp only [AV.beqL] at h <;> first | rfl | contradiction
  | x :: a, b, h => by
    cases b <;> simp only [AV.beqL] at h <;> (try contradiction)
    simp only [Bool.and_eq_true] at h
    rw [AV.beq_eq _ _ h.1, AV.beqL_eq _ _ h.2]
end

section
variable {C : Cfg} {P : Program} {B : Nat} {G : Ghost} {H : AHeap} {w : World}

theorem plain1_same {v : AV} (hp : v.plain1 = true) {x y : Value} (hx : Rep G w v x) (hy : Rep G w v y) (n : Nat) : Instr.sameBits n x y = true := by
  cases v <;> simp only [AV.plain1] at hp <;> (try contradiction) <;> simp only [Rep] at hx hy
  · subst hx; subst hy; simp [Instr.sameBits]
  · subst hx; subst hy; simp [Instr.sameBits]
  · obtain ⟨a, rfl, h1⟩ := hx
    obtain ⟨b, rfl, h2⟩ := hy
    have : a = b := by
      have := toNat_inj_list (h1.trans h2.symm)
      exact ByteArray.ext (Array.ext' this)
    subst this; simp only [Instr.sameBits]; rw [beq_toListBytes]; simp

theorem plain_same {v : AV} (hp : v.plain = true) {x y : Value} (hx : Rep G w v x) (hy : Rep G w v y) : Instr.sameBits 10000 x y = true := by
  cases v with
  | agg cs =>
    simp only [AV.plain] at hp
    simp only [Rep] at hx hy
    obtain ⟨us, rfl, hx⟩ := hx
    obtain ⟨vs, rfl, hy⟩ := hy
    have gen : ∀ (cs : List AV) (us vs : List Value), cs.all AV.plain1 = true → RepL G w cs us → RepL G w cs vs → us.length = vs.length ∧ ((us.zip vs).all fun (x, y) => Instr.sameBits 9999 x y) = true := by
      intro cs
      induction cs with
      | nil => intro us vs _ h1 h2; simp only [RepL] at h1 h2; subst h1; subst h2; exact ⟨rfl, rfl⟩
      | cons c cs ih =>
        intro us vs hp h1 h2
        simp only [RepL] at h1 h2
        obtain ⟨a, as, rfl, ha, h1⟩ := h1
        obtain ⟨b, bs, rfl, hb, h2⟩ := h2
        simp only [List.all_cons, Bool.and_eq_true] at hp
        obtain ⟨h3, h4⟩ := ih as bs hp.2 h1 h2
        refine ⟨by simp [h3], ?_⟩
        simp only [List.zip_cons_cons, List.all_cons, plain1_same hp.1 ha hb, Bool.true_and]
        exact h4
    obtain ⟨h1, h2⟩ := gen cs us vs hp hx hy
    show (us.toArray.size == vs.toArray.size && (us.toArray.toList.zip vs.toArray.toList).all fun (x, y) => Instr.sameBits 9999 x y) = true
    simp only [List.size_toArray, h1, beq_self_eq_true, Bool.true_and]
    exact h2
  | _ => simp only [AV.plain] at hp; exact plain1_same hp hx hy 10000

theorem RepE.get {es : List (AV × AV × Nat)} {ces : List MapEntry} (h : RepE G w es ces) {i : Nat} {k v : AV} {n : Nat} (he : es[i]? = some (k, v, n)) :
    ∃ e, ces[i]? = some e ∧ Rep G w k e.key ∧ Rep G w v e.val ∧ e.born = n := by
  induction es generalizing ces i with
  | nil => simp at he
  | cons a es ih =>
    obtain ⟨k', v', n'⟩ := a
    simp only [RepE] at h
    obtain ⟨e, es', rfl, h1, h2, h3, h4⟩ := h
    cases i with
    | zero => simp at he; obtain ⟨rfl, rfl, rfl⟩ := he; exact ⟨e, by simp, h1, h2, h3⟩
    | succ i => simp at he; obtain ⟨e', g1, g2⟩ := ih h4 he; exact ⟨e', by simpa using g1, g2⟩

theorem RepE.set {es : List (AV × AV × Nat)} {ces : List MapEntry} (h : RepE G w es ces) {k v : AV} {x y : Value} (hk : Rep G w k x) (hv : Rep G w v y) : ∀ (i : Nat),
    RepE G w (setVal es i k v) (ces.modify i fun e => { e with key := x, val := y }) := by
  induction es generalizing ces with
  | nil => intro i; simp only [RepE] at h; subst h; simp [setVal, RepE]
  | cons a es ih =>
    intro i
    obtain ⟨k', v', n'⟩ := a
    simp only [RepE] at h
    obtain ⟨e, es', rfl, h1, h2, h3, h4⟩ := h
    cases i with
    | zero => simp only [setVal, List.modify_zero_cons, RepE]; exact ⟨_, _, rfl, hk, hv, h3, h4⟩
    | succ i => simp only [setVal, List.modify_succ_cons, RepE]; exact ⟨_, _, rfl, h1, h2, h3, ih h4 i⟩

theorem RepE.push {es : List (AV × AV × Nat)} {ces : List MapEntry} (h : RepE G w es ces) {k v : AV} {n : Nat} {e : MapEntry} (hk : Rep G w k e.key) (hv : Rep G w v e.val) (hn : e.born = n) :
    RepE G w (es ++ [(k, v, n)]) (ces ++ [e]) := by
  induction es generalizing ces with
  | nil => simp only [RepE] at h; subst h; simp only [List.nil_append, RepE]; exact ⟨_, _, rfl, hk, hv, hn, rfl⟩
  | cons a es ih =>
    obtain ⟨k', v', n'⟩ := a
    simp only [RepE] at h
    obtain ⟨e', es', rfl, h1, h2, h3, h4⟩ := h
    simp only [List.cons_append, RepE]; exact ⟨_, _, rfl, h1, h2, h3, ih h4⟩

theorem RepE.erase {es : List (AV × AV × Nat)} {ces : List MapEntry} (h : RepE G w es ces) : ∀ (i : Nat), RepE G w (es.eraseIdx i) (ces.eraseIdx i) := by
  induction es generalizing ces with
  | nil => intro i; simp only [RepE] at h; subst h; simp [RepE]
  | cons a es ih =>
    intro i
    obtain ⟨k', v', n'⟩ := a
    simp only [RepE] at h
    obtain ⟨e', es', rfl, h1, h2, h3, h4⟩ := h
    cases i with
    | zero => simpa using h4
    | succ i => simp only [List.eraseIdx_cons_succ, RepE]; exact ⟨_, _, rfl, h1, h2, h3, ih h4 i⟩

/-- a block that is no row is put anew -/
theorem setObj_sound (hs : Sim B G H w) {b k : Nat} {blk : AB} {o o' : Obj} (hb : H.get b = some blk) (hk : G.β b = some k) (ho : w.heap[k]? = some o) (hno : ∀ c e f, o ≠ .cells c e f) (blk' : AB)
    (hrel : Le G w G { w with heap := w.heap.setIfInBounds k o' } → BRel G { w with heap := w.heap.setIfInBounds k o' } k blk') :
    (setObj k o').run P w = .ok () { w with heap := w.heap.setIfInBounds k o' } ∧ Sim B G (H.set b blk') { w with heap := w.heap.setIfInBounds k o' } ∧ Ext B H G w (H.set b blk') G { w with heap := w.heap.setIfInBounds k o' } := by
  have hlt : k < w.heap.size := (Array.getElem?_eq_some_iff.1 ho).1
  refine ⟨?_, ?_⟩
  · unfold setObj
    cases o <;> first | (simp [Sem.run, ho]; done) | exact absurd rfl (hno _ _ _)
  · refine hs.turn b k blk hb hk { w with heap := w.heap.setIfInBounds k o' } rfl rfl rfl (by simp) (fun j hj => ?_) (fun c t f h => ?_) blk' hrel
    · show (w.heap.setIfInBounds k o')[j]? = _
      rw [Array.getElem?_setIfInBounds_ne (Ne.symm hj)]
    · rw [ho] at h; cases h; exact absurd rfl (hno _ _ _)

theorem set_get {k : Nat} {o o' : Obj} (ho : w.heap[k]? = some o) : ({ w with heap := w.heap.setIfInBounds k o' } : World).heap[k]? = some o' := by
  show (w.heap.setIfInBounds k o')[k]? = _
  have hlt : k < w.heap.size := (Array.getElem?_eq_some_iff.1 ho).1
  rw [Array.getElem?_setIfInBounds_self, if_pos hlt]
end
end Go.AX
end
section
open Go (execOp)
/- AX: a string out of bytes where they lie. -/
namespace Go.AX

section
variable {C : Cfg} {P : Program} {B : Nat} {G : Ghost} {H : AHeap} {w : World}

theorem run_load_cell {a : Addr} {v : Value} (h : w.cell? a = some v) : (load a).run P w = .ok v w := by
  simp [load, Sem.run, h]

theorem run_loadBytes {k : Nat} : ∀ (ns : List Int) (o : Nat) (acc : ByteArray), (∀ j n, ns[j]? = some n → w.cell? ⟨k, o + j, none⟩ = some (.int .u8 n)) →
    (loadBytes ⟨k, o, none⟩ acc ns.length).run P w = .ok ⟨acc.data ++ (ns.map fun n => UInt8.ofNat n.toNat).toArray⟩ w
  | [], o, acc, _ => by simp [loadBytes]
  | n :: ns, o, acc, h => by
    have h0 : w.cell? ⟨k, o, none⟩ = some (.int .u8 n) := by simpa using h 0 n rfl
    have ih := run_loadBytes ns (o + 1) (acc.push (UInt8.ofNat n.toNat)) (fun j y hy => by
      have := h (j + 1) y (by simpa using hy)
      rw [show o + 1 + j = o + (j + 1) by omega]; exact this)
    simp only [List.length_cons, loadBytes]
    rw [run_bind_ok (run_load_cell h0)]
    show (loadBytes (Addr.add ⟨k, o, none⟩ 1) (acc.push n.toNat.toUInt8) ns.length).run P w = _
    rw [show Addr.add ⟨k, o, none⟩ 1 = ⟨k, o + 1, none⟩ from add_eq ..]
    show (loadBytes ⟨k, o + 1, none⟩ (acc.push (UInt8.ofNat n.toNat)) ns.length).run P w = _
    rw [ih]
    congr 1
    apply ByteArray.ext
    simp [ByteArray.push]

theorem us_def (ats : Array TypeId) (type : TypeId) (q : Option Addr) (len_ : Value) : ∃ m1 m2 m3 : String, Builtin.unsafeString_ ats type #[.pointer q, len_] = (do
    let n ← Go.asInt len_
    let some pt := ats[0]? | stuck m1
    if n < 0 then runtimePanic (.error m2)
    if n > IntKind.i64.max then unsupported (.unsafePointer "String: a length above the largest int")
    match q with
    | none =>
      if n = 0 then pure (.string .empty)
      else runtimePanic (.error m3)
    | some a =>
      if n = 0 then pure (.string .empty)
      else if ← variablesAt a (← Go.elemOf pt) n.toNat then do
        let s ← Go.loadBytes a .empty n.toNat
        freeze a n.toNat
        pure (.string s)
      else unsupported (.unsafePointer "String: not so many bytes at ptr")) := ⟨_, _, _, rfl⟩

theorem us_zero {ats : Array TypeId} {type pt : TypeId} (h : ats[0]? = some pt) (q : Option Addr) (k : IntKind) : (Builtin.unsafeString_ ats type #[.pointer q, .int k 0]).run P w = .ok (.string .empty) w := by
  have hz : ¬ (0 : Int) > IntKind.i64.max := by decide
  obtain ⟨m1, m2, m3, hd⟩ := us_def ats type q (.int k 0)
  rw [hd, run_bind_ok (a := (0 : Int)) (w' := w) rfl]
  simp only [h]
  rw [if_neg (by omega), if_neg hz]
  cases q <;> rfl

theorem unsafeString_sound (hs : Sim B G H w) {ats : Array TypeId} {type pt u : TypeId} (hpt : ats[0]? = some pt) (hu : P.underlying pt = some (.pointer u)) {b off : Nat} {k : IntKind} {n : Int} {x : Value}
    (hx : Rep G w (.ptr b off) x) (hn0 : 0 < n) (hn : n.toNat ≤ roomMost) {cs : List AV} {ty : TypeId} {frz : Nat} (hb : H.get b = some (.cells cs ty frz true))
    (hl : liesAt P P.depth ty (cs.length / P.cellsOf ty) off u n.toNat = true) {vs : List AV} {s : List Nat} (hr : readAt H (.ptr b off) n.toNat = some vs) (hby : bytesIn vs = some s) :
    ∃ y w', (Builtin.unsafeString_ ats type #[x, .int k n]).run P w = .ok y w' ∧ Rep G w' (.str s) y ∧ Sim B G (H.set b (.cells cs ty (Nat.max frz (off + n.toNat)) false)) w' ∧
      Ext B H G w (H.set b (.cells cs ty (Nat.max frz (off + n.toNat)) false)) G w' := by
  obtain ⟨b', off', xs, hx', hxs, hlen, hcells⟩ := readAt_sound hs hr hx
  obtain ⟨ns, rfl, rfl⟩ := bytesIn_sound hby hxs
  simp only [List.length_map] at hlen
  have hxx := hx
  simp only [Rep] at hxx
  obtain ⟨kk, hkk, hx2⟩ := hxx
  rw [hx'] at hx2
  obtain ⟨rfl, rfl⟩ : b' = kk ∧ off' = off := by simpa using hx2
  obtain ⟨k', hk', hB, hN, us, fr, h1, h2, h3, h4, h5⟩ := hs.blk b _ hb
  rw [hkk] at hk'; cases hk'
  have h5 := h5 rfl
  subst h5
  subst hx'
  have hlb := run_loadBytes (P := P) (w := w) ns off' .empty (fun j m hj => hcells j _ (by simp [hj]))
  rw [hlen] at hlb
  have hva : (variablesAt ⟨b', off', none⟩ u n.toNat).run P w = .ok true w := by
    rw [variablesAt, run_bind_ok (a := P) (w' := w) rfl]
    simp only []
    rw [run_bind_ok (r_shape h1)]
    simp only [liesAt_mono _ _ _ _ _ _ _ (Nat.div_le_div_right h2) hl]; rfl
  have helem : (Go.elemOf pt).run P w = .ok u w := by
    rw [Go.elemOf, run_bind_ok (r_under hu w)]; rfl
  have hn63 : ¬ n > IntKind.i64.max := by
    have : IntKind.i64.max = 9223372036854775807 := rfl
    have : roomMost ≤ 9223372036854775807 := by decide
    omega
  have hnn : n.toNat ≠ 0 := by omega
  let w' := w.freeze ⟨b', off', none⟩ n.toNat
  have hw' : w'.heap[b']? = some (.cells ⟨us⟩ ty (off', off' + n.toNat)) := by
    show (World.freeze w _ _).heap[b']? = _
    unfold World.freeze
    rw [if_neg hnn]
    simp only [Array.getElem?_modify, if_true, h1]
    simp
  refine ⟨.string ⟨(ns.map fun n => UInt8.ofNat n.toNat).toArray⟩, w', ?_, ?_, ?_⟩
  · obtain ⟨m1, m2, m3, hd⟩ := us_def ats type (some ⟨b', off', none⟩) (.int k n)
    rw [hd, run_bind_ok (a := n) (w' := w) rfl]
    simp only [hpt]
    rw [if_neg (by omega), if_neg hn63]
    rw [if_neg (by omega), run_bind_ok helem, run_bind_ok hva]
    simp only [if_true]
    rw [run_bind_ok hlb, run_bind_ok (a := ()) (w' := w') rfl, run_pure]
    simp
  · simp only [Rep]
    refine ⟨_, rfl, ?_⟩
    simp only []
    exact toNat_ofNat_list ns
  · refine hs.turn b b' _ hb hkk w' ?_ ?_ ?_ ?_ (fun j hj => ?_) (fun c t f h => ?_) _ (fun hle => ?_)
    · show (World.freeze w _ _).os = _; unfold World.freeze; rw [if_neg hnn]
    · show (World.freeze w _ _).tape = _; unfold World.freeze; rw [if_neg hnn]
    · show (World.freeze w _ _).output = _; unfold World.freeze; rw [if_neg hnn]
    · show (World.freeze w _ _).heap.size = _; unfold World.freeze; rw [if_neg hnn]; simp
    · show (World.freeze w _ _).heap[j]? = _; unfold World.freeze; rw [if_neg hnn]
      simp only [Array.getElem?_modify]
      rw [if_neg (Ne.symm hj)]
    · rw [h1] at h; cases h
      exact ⟨_, _, hw', rfl⟩
    · refine ⟨us, _, hw', h2, RepL.mono hle _ _ h3, fun o ho1 ho2 => ?_, by simp⟩
      simp only []
      have : off' + n.toNat ≤ Nat.max frz (off' + n.toNat) := Nat.le_max_right ..
      omega
end
end Go.AX
end
section
open Go (execOp)
/- AX: kind 2, but for calls: the theorem. -/
namespace Go.AX

section
variable {C : Cfg} {P : Program} {B : Nat} {G : Ghost} {H : AHeap} {w : World}

/-- what an operation that changes memory comes to -/
def Changed (P : Program) (B : Nat) (H : AHeap) (G : Ghost) (w : World) (r : Result Next) (v : AV) (H' : AHeap) : Prop :=
  ∃ G' w', Sim B G' H' w' ∧ Ext B H G w H' G' w' ∧ ((∃ x, r = .ok (.value x) w' ∧ Rep G' w' v x) ∨ (r = .ok .skip w' ∧ v = .undef))

theorem run_skip {s : Sem Unit} {w w' : World} (h : s.run P w = .ok () w') : (do s; pure Next.skip : Sem Next).run P w = .ok .skip w' := by
  rw [run_bind_ok h]; rfl

theorem push_changed {ob : Obj} {blk : AB} {r : Result Next} {v : AV} {x : Value} (hs : Sim B G H w) (hb : BRel G (plus w ob) w.heap.size blk) (hr : r = .ok (.value x) (plus w ob))
    (hv : ∀ G' : Ghost, G'.β H.next = some w.heap.size → Sim B G' (H.push blk) (plus w ob) → Rep G' (plus w ob) v x) : Changed P B H G w r v (H.push blk) := by
  obtain ⟨G', h1, h2, h3⟩ := hs.push hb
  exact ⟨G', _, h2, h3, .inl ⟨x, hr, hv G' h1 h2⟩⟩

theorem args_two {ρ : Operand → Option AV} {ρ' : Operand → Value} (hρ : RepO G w ρ ρ') {xs : Array Operand} {u v : AV} (h : evalL ρ xs.toList = some [u, v]) : ∃ x y, xs.map ρ' = #[x, y] ∧ Rep G w u x ∧ Rep G w v y := by
  have := r_evalL hρ h
  simp only [RepL] at this
  obtain ⟨x, xs', h1, h2, y, ys', h3, h4, h5⟩ := this
  subst h3; subst h5
  exact ⟨x, y, by apply Array.ext'; simpa using h1, h2, h4⟩

theorem elemOf_under {t e : TypeId} (h : elemOf P t = some e) : P.underlying t = some (.slice e) := by
  unfold elemOf at h; split at h <;> simp_all

theorem mapUpdate_sound (hs : Sim B G H w) {t kt et : TypeId} (hmt : mapTypeOf P t = some (kt, et)) {b : Nat} {k v : AV} {m x y : Value} {es : List (AV × AV × Nat)} {clock : Nat} {H' : AHeap}
    (hg : keyGood P 10 kt k = true) (hp : k.plain = true) (hb : H.get b = some (.map es clock)) (hm : Rep G w (.map b) m) (hk : Rep G w k x) (hv : Rep G w v y)
    (h : (match findA (equalA P H 100 kt) k es 0 with
        | some (some (i, _)) => match es[i]? with
          | some (k', _, _) => bif AV.beq k' k then some (AV.undef, H.set b (.map (setVal es i k v) clock)) else none
          | none => none
        | some none => some (AV.undef, H.set b (.map (es ++ [(k, v, clock)]) (clock + 1)))
        | none => none) = some (AV.undef, H')) :
    ∃ G' w', (Instr.mapUpdate t m x y).run P w = .ok () w' ∧ Sim B G' H' w' ∧ Ext B H G w H' G' w' := by
  have hu := r_mapType hmt
  simp only [Rep] at hm
  obtain ⟨kb, hkb, rfl⟩ := hm
  obtain ⟨ces, hrow, hget, he⟩ := r_getMap (P := P) hs hb hkb
  rw [Instr.mapUpdate, run_bind_ok (r_under hu w)]
  simp only []
  rw [run_bind_ok hget]
  simp only []
  rw [run_bind_ok (checkKey_sound 10 10000 kt k x _ (by decide) hg hk)]
  split at h <;> try contradiction
  · rename_i i u hf
    obtain ⟨r', h1, h2⟩ := findKey_sound hs hk hg hf he
    cases r' with
    | none => exact h2.elim
    | some r' =>
      obtain ⟨j, z⟩ := r'
      obtain ⟨rfl, _⟩ := h2
      split at h <;> try contradiction
      rename_i k' v' n' hes
      have hbq := (cond_some h).1
      replace h := (cond_some h).2
      simp only [Option.some.injEq, Prod.mk.injEq, true_and] at h
      subst h
      have := AV.beq_eq _ _ hbq; subst this
      obtain ⟨e, g1, g2, g3, g4⟩ := he.get hes
      have hkey : (Instr.keyThatStays (((ces.toArray[i]?).map (·.key)).getD x) x).run P w = .ok x w := by
        have : ces.toArray[i]? = some e := by simpa using g1
        rw [this]
        show (Instr.keyThatStays e.key x).run P w = _
        rw [Instr.keyThatStays, if_pos (plain_same hp g2 hk)]; rfl
      obtain ⟨s1, s2, s3⟩ := setObj_sound (P := P) (o' := .map (ces.toArray.modify i fun e => { e with key := x, val := y }) clock) hs hb hkb hrow (by simp) (.map (setVal es i k' v) clock) (fun hle => by
        refine ⟨ces.modify i fun e => { e with key := x, val := y }, ?_, ?_⟩
        · rw [set_get hrow]; congr 2; simp
        · exact RepE.mono hle _ _ (he.set hk hv i))
      refine ⟨G, _, ?_, s2, s3⟩
      rw [run_bind_ok h1]
      simp only []
      rw [run_bind_ok hkey]
      exact s1
  · rename_i hf
    obtain ⟨r', h1, h2⟩ := findKey_sound hs hk hg hf he
    cases r' with
    | some r' => exact h2.elim
    | none =>
      simp only [Option.some.injEq, Prod.mk.injEq, true_and] at h
      subst h
      obtain ⟨s1, s2, s3⟩ := setObj_sound (P := P) (o' := .map (ces.toArray.push { key := x, val := y, born := clock }) (clock + 1)) hs hb hkb hrow (by simp) (.map (es ++ [(k, v, clock)]) (clock + 1)) (fun hle => by
        refine ⟨ces ++ [{ key := x, val := y, born := clock }], ?_, ?_⟩
        · rw [set_get hrow]; congr 2; simp
        · exact RepE.mono hle _ _ (he.push hk hv rfl))
      refine ⟨G, _, ?_, s2, s3⟩
      rw [run_bind_ok h1]
      exact s1

theorem evalChg_sound (hs : Sim B G H w) {ρ : Operand → Option AV} {ρ' : Operand → Value} (hρ : RepO G w ρ ρ') {o : Oper} {v : AV} {H' : AHeap} (h : evalChg C H ρ o = some (v, H')) :
    Changed C.P B H G w ((execOp ρ' o).run C.P w) v H' := by
  obtain ⟨dst, op, type, pos, after, guard⟩ := o
  unfold evalChg at h
  cases op <;> simp only at h <;> try contradiction
  case store t a x =>
    split at h <;> try contradiction
    rename_i u y hu hy
    obtain ⟨H1, h1, h2⟩ := map_some h
    simp only [Prod.mk.injEq] at h2
    obtain ⟨rfl, rfl⟩ := h2
    obtain ⟨w', g1, g2, g3⟩ := storeAt_sound hs h1 (hρ _ _ hu) (hρ _ _ hy)
    exact ⟨G, w', g2, g3, .inr ⟨run_skip g1, rfl⟩⟩
  case makeMap t r =>
    cases r with
    | none => simp at h
    | some x =>
      simp only at h
      split at h <;> try contradiction
      rename_i ke k n hm hx
      simp only [Option.some.injEq, Prod.mk.injEq] at h
      obtain ⟨rfl, rfl⟩ := h
      have hx' := hρ _ _ hx
      simp only [Rep] at hx'
      obtain ⟨kt, et⟩ := ke
      refine push_changed (ob := .map #[] 0) (x := .map (some w.heap.size)) hs ⟨[], plus_last w _, by simp [RepE]⟩ ?_ (fun G' hg _ => by simp only [Rep]; exact ⟨_, hg, rfl⟩)
      refine run_value ?_
      show (Instr.makeMap t (some (ρ' x))).run C.P w = _
      rw [hx', Instr.makeMap, run_bind_ok (r_under (r_mapType hm) w)]
      rfl
  case makeSlice t l c =>
    split at h <;> try contradiction
    rename_i e k1 l' k2 c' he hl hc
    split at h <;> try contradiction
    rename_i size bytes zero hsz hby hz
    have hcond := (cond_some h).1
    replace h := (cond_some h).2
    simp only [Bool.and_eq_true, decide_eq_true_iff, ble_dec, nbeq] at hcond
    obtain ⟨⟨⟨h0, hlc⟩, hroom⟩, hzl⟩ := hcond
    obtain ⟨⟨b, H1⟩, hrow, h⟩ := map_some h
    unfold newRow at hrow
    replace hrow := (cond_some hrow).2
    simp only [Option.some.injEq, Prod.mk.injEq] at hrow h
    obtain ⟨rfl, rfl⟩ := hrow
    obtain ⟨rfl, rfl⟩ := h
    have hl' := hρ _ _ hl
    have hc' := hρ _ _ hc
    simp only [Rep] at hl' hc'
    obtain ⟨i, hi, rfl⟩ := r_bytes hby
    obtain ⟨z, hz1, hz2⟩ := r_zeroCells (G := G) hz w
    have hzl' : z.cells.toList.length = size := by rw [hz2.length]; exact hzl
    have hcr : c' ≤ (roomMost : Int) := by omega
    refine push_changed (ob := .cells (repeatL c'.toNat z.cells.toList).toArray e) (x := .slice (some ⟨w.heap.size, 0, none⟩) l'.toNat c'.toNat) hs (brel_row hs.nsmall (hz2.repeatL _)) ?_ (fun G' hg _ => by
      simp only [Rep]; exact ⟨_, _, hg, rfl, by omega, fun c'' hc'' => by cases hc''; rfl, fun h => nomatch h⟩)
    refine run_value ?_
    rw [Instr.makeSlice, run_bind_ok (r_under (elemOf_under he) w)]
    simp only [hl', hc']
    rw [run_bind_ok (a := l') (w' := w) rfl, run_bind_ok (a := c') (w' := w) rfl, run_bind_ok (r_info hi w)]
    rw [wrap_small h0 (by omega), wrap_small (by omega : (0 : Int) ≤ c') hcr]
    have hb2 : ¬ ((i.bytes : Int) * c' > 2 ^ 48) := by
      have e1 : (i.bytes : Int) * c' = ((c'.toNat * i.bytes : Nat) : Int) := by rw [Int.natCast_mul, Int.mul_comm]; congr 1; omega
      rw [e1]; unfold roomMost at hroom; omega
    have hbig : (decide (c' < 0) || decide ((i.bytes : Int) * c' > 2 ^ 48)) = false := by
      rw [decide_eq_false hb2]; simp; omega
    rw [hbig]
    have hg : ¬ ((false = true ∨ l' < 0) ∨ l' > c') := by simp; omega
    have hcnd : (false || decide (l' < 0) || decide (l' > c')) = false := by simp; omega
    simp only [hcnd, Bool.false_eq_true, if_false]
    have hask : ∀ b, (askRoom b).run C.P w = .ok () w := by intro b; unfold askRoom; split <;> rfl
    first | rw [run_bind_ok (hask _)] | rw [run_bind_ok (a := ()) (w' := w) rfl, run_bind_ok (hask _)]
    rw [run_bind_ok (r_size hsz w)]
    have hcells : ((Array.range (c'.toNat * size)).map fun i => (z.cells)[i % z.cells.size]!) = (repeatL c'.toNat z.cells.toList).toArray := by
      apply Array.ext'
      have := range_mod z.cells.toList c'.toNat
      rw [hzl'] at this
      simpa using this
    by_cases hn0 : c'.toNat * size = 0
    · rw [if_pos hn0, run_bind_ok (a := (#[] : Array Value)) (w' := w) rfl]
      have he0 : repeatL c'.toNat z.cells.toList = [] := by
        have := repeatL_length z.cells.toList c'.toNat
        rw [hzl', hn0] at this
        exact List.eq_nil_of_length_eq_zero this
      have : ((Array.range (c'.toNat * size)).map fun i => (#[] : Array Value)[i % (#[] : Array Value).size]!) = ([] : List Value).toArray := by rw [hn0]; simp
      rw [this, he0]; rfl
    · rw [if_neg hn0, run_bind_ok hz1, run_bind_ok (a := z.cells) (w' := w) rfl, hcells]; rfl
  case convert src dst' x =>
    split at h <;> try contradiction
    rename_i e s hsrc hdst hx
    split at h <;> try contradiction
    rename_i he
    have hsz := (cond_some h).1
    replace h := (cond_some h).2
    simp only [Option.some.injEq, Prod.mk.injEq] at h
    obtain ⟨rfl, rfl⟩ := h
    have hx' := hρ _ _ hx
    simp only [Rep] at hx'
    obtain ⟨bs, hxe, hbs⟩ := hx'
    have hsz1 : sizeOf C.P e = some 1 := by
      cases hs1 : sizeOf C.P e with
      | none => rw [hs1] at hsz; simp at hsz
      | some m => rw [hs1] at hsz; simp [nbeq] at hsz; rw [hsz]
    obtain ⟨hs1, hext1, hle1⟩ := hs.drew (w.drawn + 1)
    generalize hcap : bs.size + w.tape w.drawn (.appendCap bs.size 0 e) % (2 ^ 63 - bs.size) = c
    have hdraw : (choose (.appendCap bs.size 0 e)).run C.P w = .ok c { w with drawn := w.drawn + 1 } := by rw [← hcap]; rfl
    let row : List Value := (bs.data.toList.map fun b => Value.int .u8 b.toNat) ++ List.replicate (c - bs.size) (.int .u8 0)
    have hbl : bs.data.toList.length = bs.size := by simp
    have hsl : s.length = bs.size := by rw [← hbs]; simp
    have hcs : bs.size ≤ c := by omega
    have hrl : row.length = c := by simp [row, hbl]; omega
    let w1 : World := { w with drawn := w.drawn + 1 }
    -- the row, and the mark behind its end
    have hrow : (plus w1 (.cells row.toArray e (row.length, row.length + 1))).heap[w.heap.size]? = some (.cells row.toArray e (row.length, row.length + 1)) := plus_last w1 _
    have hcellsrep : RepL G w1 (s.map fun (b : Nat) => AV.int .u8 (b : Int)) (bs.data.toList.map fun b => Value.int .u8 b.toNat) := by
      rw [← hbs]
      have : ∀ l : List UInt8, RepL G w1 ((l.map UInt8.toNat).map fun (b : Nat) => AV.int .u8 (b : Int)) (l.map fun b => Value.int .u8 b.toNat) := by
        intro l
        induction l with
        | nil => simp [RepL]
        | cons a l ih => simp only [List.map_cons, RepL]; exact ⟨_, _, rfl, by simp [Rep], ih⟩
      exact this _
    have hbrel : BRel G (plus w1 (.cells row.toArray e (row.length, row.length + 1))) w1.heap.size (.cells (s.map fun (b : Nat) => .int .u8 (b : Int)) e 0 false) := by
      refine ⟨row, (row.length, row.length + 1), plus_last w1 _, ?_, ?_, fun o _ h1 h2 => by omega, fun h => nomatch h⟩
      · simp [hrl, hsl]; omega
      · have : row.take (s.map fun (b : Nat) => AV.int .u8 (b : Int)).length = bs.data.toList.map fun b => Value.int .u8 b.toNat := by
          rw [List.length_map, hsl]
          exact List.take_left' (by simp)
        rw [this]
        exact RepL.mono (Le.plus (w := w1) hs1.nsmall _) _ _ hcellsrep
    obtain ⟨G', g1, g2, g3⟩ := hs1.push hbrel
    refine ⟨G', _, g2, hext1.trans g3, .inl ⟨.slice (some ⟨w.heap.size, 0, none⟩) bs.size c, ?_, ?_⟩⟩
    · refine run_value ?_
      rw [convert, run_bind_ok (r_under hsrc w), run_bind_ok (r_under hdst w), hxe]
      simp only []
      rw [run_bind_ok (r_under he w)]
      show (Conv.stringToBytes e bs).run C.P w = _
      rw [Conv.stringToBytes, run_bind_ok hdraw]
      have harr : ((bs.data.map fun b => Value.int .u8 b.toNat) ++ Array.replicate (c - bs.size) (.int .u8 0)) = row.toArray := by
        apply Array.ext'
        simp [row]
      dsimp only
      rw [harr]
      have hnr : (Go.newRow e row.toArray).run C.P w1 = .ok ⟨w.heap.size, 0, none⟩ (plus w1 (.cells row.toArray e)) := rfl
      rw [run_bind_ok hnr]
      have hmark : (markStringish ⟨w.heap.size, 0, none⟩).run C.P (plus w1 (.cells row.toArray e)) = .ok () (plus w1 (.cells row.toArray e (row.length, row.length + 1))) := by
        have hh : (plus w1 (.cells row.toArray e)).heap[w.heap.size]? = some (.cells ⟨row⟩ e (0, 0)) := plus_last w1 _
        rw [markStringish, run_bind_ok (r_shape hh)]
        show Result.ok () (World.freeze _ _ _) = _
        congr 1
        unfold World.freeze
        simp only [Nat.one_ne_zero, if_false]
        unfold plus
        congr 1
        apply Array.ext'
        apply List.ext_getElem?
        intro j
        simp only [Array.getElem?_toList, Array.getElem?_modify]
        by_cases hj : w.heap.size = j
        · subst hj
          simp [w1]
        · rw [if_neg hj]
          rw [getElem_push, getElem_push]
          have : ¬ j = w1.heap.size := fun e => hj e.symm
          rw [if_neg this, if_neg this]
      rw [run_bind_ok hmark]; rfl
    · simp only [Rep]
      refine ⟨w.heap.size, c, g1, by rw [hsl], by rw [hsl]; exact hcs, (fun c' hc' => nomatch hc'), fun _ => ⟨row.toArray, e, _, hrow, by simp [hrl]⟩⟩
  case mapUpdate t m k x =>
    split at h <;> try contradiction
    rename_i kt et b k' v' hmt hm hk hx
    have hg := (cond_none h).1
    replace h := (cond_none h).2
    simp only [Bool.or_eq_false_iff, Bool.not_eq_false'] at hg
    split at h <;> try contradiction
    rename_i es clock hb
    have hvu : v = .undef := by
      split at h <;> (try contradiction) <;> (try (split at h <;> try contradiction))
      · have := (cond_some h).2; simp only [Option.some.injEq, Prod.mk.injEq] at this; exact this.1.symm
      · simp only [Option.some.injEq, Prod.mk.injEq] at h; exact h.1.symm
    subst hvu
    obtain ⟨G', w', g1, g2, g3⟩ := mapUpdate_sound hs hmt hg.1 hg.2 hb (hρ _ _ hm) (hρ _ _ hk) (hρ _ _ hx) h
    exact ⟨G', w', g2, g3, .inr ⟨run_skip g1, rfl⟩⟩
  case insert t m k x =>
    split at h <;> try contradiction
    rename_i kt et b k' v' hmt hm hk hx
    have hg := (cond_none h).1
    replace h := (cond_none h).2
    simp only [Bool.or_eq_false_iff, Bool.not_eq_false'] at hg
    split at h <;> try contradiction
    rename_i es clock hb
    have hvu : v = .undef := by
      split at h <;> (try contradiction) <;> (try (split at h <;> try contradiction))
      · have := (cond_some h).2; simp only [Option.some.injEq, Prod.mk.injEq] at this; exact this.1.symm
      · simp only [Option.some.injEq, Prod.mk.injEq] at h; exact h.1.symm
    subst hvu
    obtain ⟨G', w', g1, g2, g3⟩ := mapUpdate_sound hs hmt hg.1 hg.2 hb (hρ _ _ hm) (hρ _ _ hk) (hρ _ _ hx) h
    exact ⟨G', w', g2, g3, .inr ⟨run_skip g1, rfl⟩⟩
  case range t x =>
    split at h <;> try contradiction
    · rename_i ke hmt hx
      obtain ⟨kt, et⟩ := ke
      simp only [Option.some.injEq, Prod.mk.injEq] at h
      obtain ⟨rfl, rfl⟩ := h
      have hx' := hρ _ _ hx
      simp only [Rep] at hx'
      refine push_changed (ob := .mapIter none 0 #[] 0) (x := .pointer (some ⟨w.heap.size, 0, none⟩)) hs ⟨none, plus_last w _, rfl⟩ ?_ (fun G' hg _ => by simp only [Rep]; exact ⟨_, hg, rfl⟩)
      refine run_value ?_
      rw [Instr.range, run_bind_ok (r_under (r_mapType hmt) w), hx']
      rfl
    · rename_i ke b hmt hx
      obtain ⟨kt, et⟩ := ke
      split at h <;> try contradiction
      rename_i es clock hb
      simp only [Option.some.injEq, Prod.mk.injEq] at h
      obtain ⟨rfl, rfl⟩ := h
      have hx' := hρ _ _ hx
      simp only [Rep] at hx'
      obtain ⟨kb, hkb, hxe⟩ := hx'
      obtain ⟨ces, hrow, hget, he⟩ := r_getMap (P := C.P) hs hb hkb
      refine push_changed (ob := .mapIter (some kb) clock #[] clock) (x := .pointer (some ⟨w.heap.size, 0, none⟩)) hs ⟨some kb, plus_last w _, kb, hkb, rfl⟩ ?_ (fun G' hg _ => by simp only [Rep]; exact ⟨_, hg, rfl⟩)
      refine run_value ?_
      rw [Instr.range, run_bind_ok (r_under (r_mapType hmt) w), hxe]
      simp only []
      rw [run_bind_ok hget]; rfl
  case next it isString =>
    split at h <;> try contradiction
    rename_i r hit
    have hx' := hρ _ _ hit
    simp only [Rep] at hx'
    obtain ⟨kr, hkr, hxe⟩ := hx'
    split at h <;> try contradiction
    · rename_i since seen last hr
      simp only [Option.some.injEq, Prod.mk.injEq] at h
      obtain ⟨rfl, rfl⟩ := h
      obtain ⟨k', hk', _, _, m', h1, h2⟩ := hs.blk r _ hr
      rw [hkr] at hk'; cases hk'
      simp only at h2; subst h2
      have hget : (getObj kr).run C.P w = .ok (.mapIter none since ⟨seen⟩ last) w := by simp [getObj, Sem.run, h1]
      refine ⟨G, w, hs, Ext.refl _ _ _ _, .inl ⟨.tuple #[.bool false], ?_, by simp only [Rep]; exact ⟨[.bool false], rfl, by simp only [RepL]; exact ⟨_, _, rfl, by simp [Rep], rfl⟩⟩⟩⟩
      refine run_value ?_
      rw [hxe, Instr.next]
      simp only []
      rw [run_bind_ok hget]; rfl
    · rename_i b since seen last hr
      split at h <;> try contradiction
      rename_i es clock hb
      have hcond := (cond_none h).1
      replace h := (cond_none h).2
      obtain ⟨k', hk', _, _, m', h1, h2⟩ := hs.blk r _ hr
      rw [hkr] at hk'; cases hk'
      simp only at h2
      obtain ⟨kb, hkb, rfl⟩ := h2
      obtain ⟨ces, hrow, hgetm, he⟩ := r_getMap (P := C.P) hs hb hkb
      have hget : (getObj kr).run C.P w = .ok (.mapIter (some kb) since ⟨seen⟩ last) w := by simp [getObj, Sem.run, h1]
      have hborn : ∀ (p : Nat → Bool), es.all (fun e => p e.2.2) = ces.all fun e => p e.born := by
        intro p
        have : ∀ (es : List (AV × AV × Nat)) (ces : List MapEntry), RepE G w es ces → es.all (fun e => p e.2.2) = ces.all fun e => p e.born := by
          intro es
          induction es with
          | nil => intro ces h; simp only [RepE] at h; subst h; rfl
          | cons e es ih => obtain ⟨k, v, n⟩ := e; intro ces h; simp only [RepE] at h; obtain ⟨e, es', rfl, _, _, hn, h⟩ := h; simp [ih _ h, hn]
        exact this es ces he
      have hfilter : ∀ (p : Nat → Bool) (es : List (AV × AV × Nat)) (ces : List MapEntry), RepE G w es ces → RepE G w (es.filter fun e => p e.2.2) (ces.filter fun e => p e.born) := by
        intro p es
        induction es with
        | nil => intro ces h; simp only [RepE] at h; subst h; simp [RepE]
        | cons e es ih =>
          obtain ⟨k, v, n⟩ := e
          intro ces h
          simp only [RepE] at h
          obtain ⟨e, es', rfl, g1, g2, hn, h⟩ := h
          simp only [List.filter_cons]
          subst hn
          cases p e.born
          · simpa using ih _ h
          · simp only [if_true, RepE]; exact ⟨_, _, rfl, g1, g2, rfl, ih _ h⟩
      have hempty : es.isEmpty = ces.isEmpty := by
        cases es with
        | nil => simp only [RepE] at he; subst he; rfl
        | cons e es => obtain ⟨k, v, n⟩ := e; simp only [RepE] at he; obtain ⟨e, es', rfl, _⟩ := he; rfl
      have hc2 : (!(⟨seen⟩ : Array Nat).isEmpty && !(⟨ces⟩ : Array MapEntry).isEmpty && (⟨ces⟩ : Array MapEntry).all (fun e => decide (e.born ≥ last))) = false := by
        have e1 := hborn fun n => last.ble n
        rw [hempty, e1] at hcond
        have e2 : (⟨seen⟩ : Array Nat).isEmpty = seen.isEmpty := by cases seen <;> rfl
        have e3 : (⟨ces⟩ : Array MapEntry).isEmpty = ces.isEmpty := by cases ces <;> rfl
        have e4 : (⟨ces⟩ : Array MapEntry).all (fun e => decide (e.born ≥ last)) = ces.all fun e => last.ble e.born := by
          simp only [List.all_toArray, ble_dec]; try rfl
        rw [e2, e3, e4]; exact hcond
      have hleft : RepE G w (es.filter fun e => !(seen.any (Nat.beq e.2.2))) (ces.filter fun e => !(seen.any (Nat.beq e.born))) := hfilter (fun n => !(seen.any (Nat.beq n))) es ces he
      have hold := hfilter (fun n => n.blt since) _ _ hleft
      have hnew := hfilter (fun n => !(n.blt since)) _ _ hleft
      have hcontains : ∀ n, (⟨seen⟩ : Array Nat).contains n = seen.any (Nat.beq n) := by
        intro n
        simp only [List.contains_toArray]
        rw [List.contains_eq_any_beq]
        congr 1
        funext x
        rw [nbeq]
        by_cases e : n = x <;> simp [e]
      have hL : (⟨ces⟩ : Array MapEntry).filter (fun e => !(⟨seen⟩ : Array Nat).contains e.born) = (ces.filter fun e => !(seen.any (Nat.beq e.born))).toArray := by
        have : (fun e : MapEntry => !(⟨seen⟩ : Array Nat).contains e.born) = fun e => !(seen.any (Nat.beq e.born)) := by funext e; rw [hcontains]
        rw [this]; simp
      have hO : ∀ l : List MapEntry, l.toArray.filter (fun e => decide (e.born < since)) = (l.filter fun e => e.born.blt since).toArray := by
        intro l
        have : (fun e : MapEntry => decide (e.born < since)) = fun e => e.born.blt since := by funext e; rw [blt_dec]
        rw [this]; simp
      have hN : ∀ l : List MapEntry, l.toArray.filter (fun e => decide (e.born ≥ since)) = (l.filter fun e => !(e.born.blt since)).toArray := by
        intro l
        have : (fun e : MapEntry => decide (e.born ≥ since)) = fun e => !(e.born.blt since) := by
          funext e; rw [blt_dec]
          by_cases c : e.born < since
          · have : ¬ e.born ≥ since := by omega
            simp [c, this]
          · have : e.born ≥ since := by omega
            simp [c, this]
        rw [this]; simp
      generalize hles : (es.filter fun e => !(seen.any (Nat.beq e.2.2))) = les at *
      generalize hlces : (ces.filter fun e => !(seen.any (Nat.beq e.born))) = lces at *
      have start : ∀ {rr : Result Value}, (do
          let old := lces.toArray.filter (fun e => decide (e.born < since))
          let new := lces.toArray.filter (fun e => decide (e.born ≥ since))
          let candidates := (if old.isEmpty then #[none] else #[]) ++ (old ++ new).map some
          match candidates[← choose (.mapNext candidates.size)]? with
          | some (some e) =>
            setObj kr (.mapIter (some kb) since ((⟨seen⟩ : Array Nat).push e.born) clock)
            pure (.tuple #[.bool true, e.key, e.val])
          | some none => pure (.tuple #[.bool false])
          | none => stuck "Next: no such candidate" : Sem Value).run C.P w = rr → (Instr.next (ρ' it) false type).run C.P w = rr := by
        intro rr hrr
        rw [hxe, Instr.next]
        simp only []
        rw [run_bind_ok hget]
        simp only []
        rw [run_bind_ok hgetm]
        simp only []
        rw [hc2]
        simp only [Bool.false_eq_true, if_false]
        rw [hL]
        first | exact hrr | (rw [run_bind_ok (a := ()) (w' := w) rfl]; exact hrr)
      rw [hO, hN] at start
      generalize hoes : (les.filter fun e => e.2.2.blt since) = oes at *
      generalize hnes : (les.filter fun e => !(e.2.2.blt since)) = nes at *
      generalize hoces : (lces.filter fun e => e.born.blt since) = oces at *
      generalize hnces : (lces.filter fun e => !(e.born.blt since)) = nces at *
      split at h <;> try contradiction
      · simp only [RepE] at hold hnew
        subst hold; subst hnew
        simp only [Option.some.injEq, Prod.mk.injEq] at h
        obtain ⟨rfl, rfl⟩ := h
        refine ⟨G, w, hs, Ext.refl _ _ _ _, .inl ⟨.tuple #[.bool false], ?_, by simp only [Rep]; exact ⟨[.bool false], rfl, by simp only [RepL]; exact ⟨_, _, rfl, by simp [Rep], rfl⟩⟩⟩⟩
        refine run_value (start ?_)
        have e1 : ((if (#[] : Array MapEntry).isEmpty = true then #[none] else #[]) ++ ((#[] : Array MapEntry) ++ #[]).map some) = #[none] := by simp
        dsimp only
        rw [e1]
        have hch : (choose (.mapNext 1)).run C.P w = .ok 0 w := rfl
        show (do let i ← choose (.mapNext 1); _ : Sem Value).run C.P w = _
        rw [run_bind_ok hch]; rfl
      · rename_i e
        obtain ⟨ek, ev, en⟩ := e
        simp only [RepE] at hold hnew
        subst hnew
        obtain ⟨ce, _, rfl, c1, c2, c3, rfl⟩ := hold
        simp only [Option.some.injEq, Prod.mk.injEq] at h
        obtain ⟨rfl, rfl⟩ := h
        subst c3
        obtain ⟨s1, s2, s3⟩ := setObj_sound (P := C.P) (o' := .mapIter (some kb) since ((⟨seen⟩ : Array Nat).push ce.born) clock) hs hr hkr h1 (by simp) (.miter (some b) since (seen ++ [ce.born]) clock) (fun hle => by
          refine ⟨some kb, ?_, kb, hkb, rfl⟩
          rw [set_get h1]; congr 2; simp)
        have hle := s3.le hs
        refine ⟨G, _, s2, s3, .inl ⟨.tuple #[.bool true, ce.key, ce.val], ?_, ?_⟩⟩
        · refine run_value (start ?_)
          have e1 : ((if ([ce].toArray : Array MapEntry).isEmpty = true then #[none] else #[]) ++ (([ce].toArray : Array MapEntry) ++ ([] : List MapEntry).toArray).map some) = #[some ce] := by simp
          dsimp only
          rw [e1]
          have hch : (choose (.mapNext 1)).run C.P w = .ok 0 w := rfl
          show (do let i ← choose (.mapNext 1); _ : Sem Value).run C.P w = _
          rw [run_bind_ok hch]
          show (do setObj kr _; pure _ : Sem Value).run C.P w = _
          rw [run_bind_ok s1]; rfl
        · simp only [Rep]
          exact ⟨[.bool true, ce.key, ce.val], rfl, by simp only [RepL]; exact ⟨_, _, rfl, by simp [Rep], _, _, rfl, Rep.mono hle _ _ c1, _, _, rfl, Rep.mono hle _ _ c2, rfl⟩⟩
  case call c =>
    obtain ⟨callee, args, argTypes⟩ := c
    cases callee <;> try contradiction
    rename_i b
    have hcall : ∀ {r : Result Value}, (∀ {w' : World} {x : Value}, r = .ok x w' → (builtin b argTypes type (args.map fun | .const _ => true | _ => false) (args.map ρ')).run C.P w = .ok (.value x) w') →
        ∀ {w' : World} {x : Value}, r = .ok x w' → (execOp ρ' { dst, op := .call { callee := .builtin b, args, argTypes }, type, pos, after, guard }).run C.P w = .ok (.value x) w' := by
      intro r h1 w' x hr
      simp only [execOp]
      rw [call_builtin rfl]
      exact h1 hr
    cases b <;> simp only at h <;> try contradiction
    case append =>
      split at h <;> try contradiction
      rename_i s y e hargs helem
      obtain ⟨t, ht, he⟩ := bind_some helem
      obtain ⟨x, y', hxy, hsx, hyy⟩ := args_two hρ hargs
      have main : ∀ {n : Nat} {new? : Option (List AV)}, appendC C.P H e s n new? = some (v, H') → (∀ (size : Nat) (i : TypeInfo) (z : Value), C.P.info? e = some i → sizeOf C.P e = some size → (∀ w, (Go.zeroValue e).run C.P w = .ok z w) → zeroCellsOf C.P e ≠ none →
          ∃ r : Result Value, r = (Builtin.append_ argTypes type #[x, y']).run C.P w ∧ ∃ y G' w', r = .ok y w' ∧ Sim B G' H' w' ∧ Ext B H G w H' G' w' ∧ Rep G' w' v y) →
          Changed C.P B H G w ((execOp ρ' { dst, op := .call { callee := .builtin .append, args, argTypes }, type, pos, after, guard }).run C.P w) v H' := by
        intro n new? ha hk
        -- what append needs of the element's type
        unfold appendC at ha
        simp only [Option.bind_eq_bind] at ha
        obtain ⟨size, hsz, ha1⟩ := bind_some ha
        obtain ⟨bytes, hby, ha2⟩ := bind_some ha1
        obtain ⟨sLen, hsl, ha3⟩ := bind_some ha2
        obtain ⟨zero, hzc, ha4⟩ := bind_some ha3
        obtain ⟨i, hi, _⟩ := r_bytes hby
        have hz : ∃ z, ∀ w, (Go.zeroValue e).run C.P w = .ok z w := by
          unfold zeroCellsOf at hzc
          obtain ⟨zv, hzv, _⟩ := map_some hzc
          unfold zeroOf at hzv
          obtain ⟨zz, hzz, _⟩ := map_some hzv
          obtain ⟨it, hit, hitz⟩ := bind_some hzz
          exact ⟨zz, fun w => by rw [Go.zeroValue, run_bind_ok (r_info hit w), hitz]; rfl⟩
        obtain ⟨z, hz⟩ := hz
        obtain ⟨r, hr, y, G', w', g1, g2, g3, g4⟩ := hk size i z hi hsz hz (by rw [hzc]; simp)
        refine ⟨G', w', g2, g3, .inl ⟨y, hcall (r := r) ?_ g1, g4⟩⟩
        intro w'' x' hr'
        rw [hxy]
        refine run_value ?_
        rw [← hr]; exact hr'
      split at h <;> try contradiction
      · rename_i hzt
        split at h <;> try contradiction
        rename_i k n zero hzc
        have hc := (cond_some h).1
        replace h := (cond_some h).2
        simp only [Bool.and_eq_true, decide_eq_true_iff, ble_dec] at hc
        obtain ⟨hpos, hroom⟩ := hc
        refine main h ?_
        intro size i z hi hsz hz _
        refine ⟨_, rfl, ?_⟩
        simp only [Rep] at hyy; subst hyy
        have ha : AppArgs C.P argTypes e size i z := ⟨⟨t, ht, elemOf_under he⟩, hsz, hi, hz⟩
        obtain ⟨zz, hz1, hz2⟩ := r_zeroCells (G := G) hzc w
        have hzz : zz = z := by have := (hz w).symm.trans hz1; injection this with h _; exact h.symm
        subst hzz
        have hn0 : n.toNat ≠ 0 := by omega
        refine appendC_sound hs hi hsz hz h hsx (fun h0 => absurd h0 hn0) (repeatL n.toNat zz.cells.toList) (fun new hnew _ _ => ?_) ?_ ?_
        · simp only [Option.some.injEq] at hnew; subst hnew; exact hz2.repeatL _
        · intro base sLen sCap w' _ hsize hxe hrm hfit hst
          subst hxe
          refine appendz_fit (ty := type) ha (zeros_of hzt) (by omega) (by omega) ?_ (Nat.mul_ne_zero hn0 hsize) hfit hst
          have : n.toNat * i.bytes ≤ (sLen + n.toNat) * i.bytes := Nat.mul_le_mul_right _ (by omega)
          omega
        · intro base sLen sCap os _ hsize hxe hng hrm hp ho
          subst hxe
          exact appendz_grow (ty := type) ha (zeros_of hzt) (by omega) (by omega) (Nat.mul_ne_zero hn0 hsize) hng hrm hp ho
      · rename_i hzt
        unfold appendA at h
        simp only [Option.bind_eq_bind] at h
        obtain ⟨size0, hsz0, h1⟩ := bind_some h
        obtain ⟨n, hn, h2⟩ := bind_some h1
        refine main h2 ?_
        intro size i z hi hsz hz _
        have hse : size0 = size := by rw [hsz] at hsz0; exact (Option.some.inj hsz0).symm
        subst hse
        refine ⟨_, rfl, ?_⟩
        have ha : AppArgs C.P argTypes e size0 i z := ⟨⟨t, ht, elemOf_under he⟩, hsz, hi, hz⟩
        have hnr : ∀ w : World, (Builtin.lenOf y').run C.P w = .ok n w := fun w => by
          rcases r_lenOf hn hyy with ⟨b, c, rfl⟩ | ⟨s, rfl, rfl⟩ <;> rfl
        obtain ⟨hs1, _, hle1⟩ := hs.drew (w.drawn + 1)
        -- the cells of what is appended, now and behind a draw
        cases hnw : firstCells H size0 n y with
        | none =>
          rw [hnw] at h2
          refine appendC_sound hs hi hsz hz h2 hsx (fun h0 base sLen sCap hxe hle => ?_) [] (fun new hnew _ _ => nomatch hnew) ?_ ?_
          · subst hxe; subst h0
            have hx0 : (Builtin.firstCells size0 0 y').run C.P w = .ok ([] : List Value).toArray w := by
              rcases r_lenOf hn hyy with ⟨b, c, rfl⟩ | ⟨s, rfl, hs0⟩
              · cases b <;> simp [Builtin.firstCells, loadCells, loadCellsFrom]
              · simp [Builtin.firstCells]
            refine append_fit (ty := type) (xs := []) ha (zeros_of hzt) (hnr w) hx0 (by simpa using hle) ?_
            cases base <;> rfl
          · intro base sLen sCap w' hn0 _ _ _ _ _
            exfalso
            unfold appendC at h2
            simp only [Option.bind_eq_bind] at h2
            obtain ⟨_, _, h3⟩ := bind_some h2
            obtain ⟨_, _, h4⟩ := bind_some h3
            obtain ⟨_, _, h5⟩ := bind_some h4
            obtain ⟨_, _, h6⟩ := bind_some h5
            rw [nbeq, decide_eq_false hn0] at h6
            simp only [cond_false] at h6
            have := (cond_none h6).2
            simp at this
          · intro base sLen sCap os hn0 _ _ _ _ _ _
            exfalso
            unfold appendC at h2
            simp only [Option.bind_eq_bind] at h2
            obtain ⟨_, _, h3⟩ := bind_some h2
            obtain ⟨_, _, h4⟩ := bind_some h3
            obtain ⟨_, _, h5⟩ := bind_some h4
            obtain ⟨_, _, h6⟩ := bind_some h5
            rw [nbeq, decide_eq_false hn0] at h6
            simp only [cond_false] at h6
            have := (cond_none h6).2
            simp at this
        | some new =>
          obtain ⟨xs, hx1, hx2⟩ := firstCells_all (P := C.P) hs hnw hn (Nat.le_refl _) hyy
          rw [hnw] at h2
          refine appendC_sound hs hi hsz hz h2 hsx (fun h0 base sLen sCap hxe hle => ?_) xs (fun new' hnew' _ _ => by cases hnew'; exact hx2) ?_ ?_
          · subst hxe; subst h0
            have hx0 : (Builtin.firstCells size0 0 y').run C.P w = .ok ([] : List Value).toArray w := by
              rcases r_lenOf hn hyy with ⟨b, c, rfl⟩ | ⟨s, rfl, hs0⟩
              · cases b <;> simp [Builtin.firstCells, loadCells, loadCellsFrom]
              · simp [Builtin.firstCells]
            refine append_fit (ty := type) (xs := []) ha (zeros_of hzt) (hnr w) hx0 (by simpa using hle) ?_
            cases base <;> rfl
          · intro base sLen sCap w' hn0 hsize hxe hrm hfit hst
            subst hxe
            exact append_fit (ty := type) ha (zeros_of hzt) (hnr w) (hx1 w.drawn) hfit hst
          · intro base sLen sCap os hn0 hsize hxe hng hrm hp ho
            subst hxe
            exact append_grow (ty := type) ha (zeros_of hzt) (hnr w) hng hrm hp ho (hx1 (w.drawn + 1))
    case copy =>
      split at h <;> try contradiction
      rename_i d s e hargs helem
      obtain ⟨t, ht, he⟩ := bind_some helem
      obtain ⟨x, y', hxy, hdx, hsy⟩ := args_two hρ hargs
      unfold copyA at h
      simp only [Option.bind_eq_bind] at h
      obtain ⟨size, hsz, h1⟩ := bind_some h
      obtain ⟨n, hn, h2⟩ := bind_some h1
      clear h h1
      have hnr : (Builtin.lenOf y').run C.P w = .ok n w := by
        rcases r_lenOf hn hsy with ⟨b, c, rfl⟩ | ⟨s, rfl, rfl⟩ <;> rfl
      -- the model's side
      have run : ∀ {base : Option Addr} {len c : Nat} {xs : List Value} {w' : World}, x = .slice base len c → (Builtin.firstCells size (Nat.min n len) y').run C.P w = .ok xs.toArray w →
          (match base with | some a => storeCells a xs | none => pure () : Sem Unit).run C.P w = .ok () w' → (Builtin.copy_ argTypes type #[x, y']).run C.P w = .ok (goInt (Nat.min n len)) w' := by
        intro base len c xs w' hx hf hst
        subst hx
        rw [Builtin.copy_]
        simp only [ht, show (#[Value.slice base len c, y'] : Array Value)[0]? = some (.slice base len c) from rfl, show (#[Value.slice base len c, y'] : Array Value)[1]? = some y' from rfl]
        rw [run_bind_ok (r_under (elemOf_under he) w)]
        simp only []
        rw [run_bind_ok hnr, run_bind_ok (r_size hsz w), run_bind_ok hf]
        cases base with
        | none =>
          simp only at hst ⊢
          have : w' = w := by injection hst with _ h; exact h.symm
          subst this
          first | rfl | (rw [run_bind_ok (a := ()) (w' := w') rfl]; rfl)
        | some a =>
          simp only at hst ⊢
          rw [run_bind_ok hst]; rfl
      have nothing : ∀ {base : Option Addr} {len c : Nat}, x = .slice base len c → Nat.min n len = 0 → v = .goInt 0 → H' = H →
          Changed C.P B H G w ((execOp ρ' { dst, op := .call { callee := .builtin .copy, args, argTypes }, type, pos, after, guard }).run C.P w) v H' := by
        intro base len c hx hm hv hh
        subst hv; subst hh
        have hx0 : (Builtin.firstCells size (Nat.min n len) y').run C.P w = .ok ([] : List Value).toArray w := by
          rw [hm]
          rcases r_lenOf hn hsy with ⟨b, c, rfl⟩ | ⟨s, rfl, hs0⟩
          · cases b <;> simp [Builtin.firstCells, loadCells, loadCellsFrom]
          · simp [Builtin.firstCells]
        have hr := run (w' := w) hx hx0 (by cases base <;> rfl)
        refine ⟨G, w, hs, Ext.refl _ _ _ _, .inl ⟨goInt 0, hcall (r := .ok (goInt 0) w) ?_ rfl, by simp [Rep, AV.goInt, goInt]⟩⟩
        intro w'' x' hr'
        rw [hxy]
        refine run_value ?_
        rw [hr, hm]; exact hr'
      cases d <;> simp only at h2 <;> try contradiction
      case snil =>
        simp only [Option.some.injEq, Prod.mk.injEq] at h2
        simp only [Rep] at hdx
        exact nothing hdx (by simp) h2.1.symm h2.2.symm
      case emp =>
        simp only [Option.some.injEq, Prod.mk.injEq] at h2
        simp only [Rep] at hdx
        obtain ⟨a, hdx⟩ := hdx
        exact nothing hdx (by simp) h2.1.symm h2.2.symm
      case slc b off len cap esz =>
        simp only [Rep] at hdx
        obtain ⟨k, c, hk, hdx, hlc, _⟩ := hdx
        rw [nbeq] at h2
        by_cases hm : Nat.min n len = 0
        · rw [decide_eq_true hm] at h2
          simp only [cond_true, Option.some.injEq, Prod.mk.injEq] at h2
          exact nothing hdx hm h2.1.symm h2.2.symm
        · rw [decide_eq_false hm] at h2
          simp only [cond_false] at h2
          have h3 := (cond_none h2).2
          obtain ⟨new, hnw, h4⟩ := bind_some h3
          obtain ⟨H1, hw, h5⟩ := bind_some h4
          simp only [Option.some.injEq, Prod.mk.injEq] at h5
          obtain ⟨rfl, rfl⟩ := h5
          obtain ⟨xs, hx1, hx2⟩ := firstCells_sound (P := C.P) hs hnw hn (Nat.min_le_left _ _) hsy
          obtain ⟨w', g1, g2, g3⟩ := writeAt_sound (P := C.P) hs hw hx2 hk
          have hr := run (w' := w') hdx hx1 g1
          refine ⟨G, w', g2, g3, .inl ⟨goInt (Nat.min n len), hcall (r := .ok (goInt (Nat.min n len)) w') ?_ rfl, by simp [Rep, AV.goInt, goInt]⟩⟩
          intro w'' x' hr'
          rw [hxy]
          refine run_value ?_
          rw [hr]; exact hr'
    case delete =>
      split at h <;> try contradiction
      rename_i m k kt et hargs hmt
      obtain ⟨t, ht, hmt⟩ := bind_some hmt
      obtain ⟨x, y', hxy, hmx, hky⟩ := args_two hρ hargs
      have hg := (cond_none h).1
      replace h := (cond_none h).2
      simp only [Bool.or_eq_false_iff, Bool.not_eq_false'] at hg
      have hu := r_mapType hmt
      have fin : ∀ {w' : World}, (Builtin.delete_ argTypes type #[x, y']).run C.P w = .ok (.tuple #[]) w' → Sim B G H' w' → Ext B H G w H' G w' → v = .undef →
          Changed C.P B H G w ((execOp ρ' { dst, op := .call { callee := .builtin .delete, args, argTypes }, type, pos, after, guard }).run C.P w) v H' := by
        intro w' hr h1 h2 hv
        subst hv
        refine ⟨G, w', h1, h2, .inl ⟨.tuple #[], hcall (r := .ok (.tuple #[]) w') ?_ rfl, by simp [Rep, AV.undef, RepL]⟩⟩
        intro w'' x' hr'
        rw [hxy]
        refine run_value ?_
        rw [hr]; exact hr'
      have start : ∀ {r : Result Value}, (do
          match x with
          | .map none => Instr.checkKey true 10000 kt y'
          | .map (some r) =>
            let .map es clock ← getObj r | stuck "delete: map expected"
            Instr.checkKey es.isEmpty 10000 kt y'
            match ← Instr.findKey kt y' es.toList with
            | some (i, _) => setObj r (.map (es.eraseIdxIfInBounds i) clock)
            | none => setObj r (.map es clock)
          | _ => stuck "delete: map expected"
          pure (.tuple #[]) : Sem Value).run C.P w = r → (Builtin.delete_ argTypes type #[x, y']).run C.P w = r := by
        intro r hr
        rw [Builtin.delete_]
        simp only [ht, show (#[x, y'] : Array Value)[0]? = some x from rfl, show (#[x, y'] : Array Value)[1]? = some y' from rfl]
        rw [run_bind_ok (r_under hu w)]
        exact hr
      cases m <;> simp only at h <;> try contradiction
      case nmap =>
        simp only [Option.some.injEq, Prod.mk.injEq] at h
        simp only [Rep] at hmx; subst hmx
        refine fin (w' := w) (start ?_) (h.2 ▸ hs) (h.2 ▸ Ext.refl _ _ _ _) h.1.symm
        simp only []
        rw [run_bind_ok (checkKey_sound 10 10000 kt k y' _ (by decide) hg.1 hky)]; rfl
      case map b =>
        split at h <;> try contradiction
        rename_i es clock hb
        simp only [Rep] at hmx
        obtain ⟨kb, hkb, rfl⟩ := hmx
        obtain ⟨ces, hrow, hget, hes⟩ := r_getMap (P := C.P) hs hb hkb
        have hck := checkKey_sound (w := w) 10 10000 kt k y' (⟨ces⟩ : Array MapEntry).isEmpty (by decide) hg.1 hky
        split at h <;> try contradiction
        · rename_i i u hf
          obtain ⟨r', h1, h2⟩ := findKey_sound hs hky hg.1 hf hes
          cases r' with
          | none => exact h2.elim
          | some r' =>
            obtain ⟨j, z⟩ := r'
            obtain ⟨rfl, _⟩ := h2
            simp only [Option.some.injEq, Prod.mk.injEq] at h
            obtain ⟨rfl, rfl⟩ := h
            obtain ⟨s1, s2, s3⟩ := setObj_sound (P := C.P) (o' := .map ((⟨ces⟩ : Array MapEntry).eraseIdxIfInBounds i) clock) hs hb hkb hrow (by simp) (.map (es.eraseIdx i) clock) (fun hle => by
              refine ⟨ces.eraseIdx i, ?_, RepE.mono hle _ _ (hes.erase i)⟩
              rw [set_get hrow]; congr 2
              simp)
            refine fin (start ?_) s2 s3 rfl
            simp only []
            rw [run_bind_ok hget]
            simp only []
            rw [run_bind_ok hck, run_bind_ok h1]
            simp only []
            rw [run_bind_ok s1]; rfl
        · rename_i hf
          obtain ⟨r', h1, h2⟩ := findKey_sound hs hky hg.1 hf hes
          cases r' with
          | some r' => exact h2.elim
          | none =>
            simp only [Option.some.injEq, Prod.mk.injEq] at h
            obtain ⟨rfl, rfl⟩ := h
            obtain ⟨s1, s2, s3⟩ := setObj_sound (P := C.P) (o' := .map (⟨ces⟩ : Array MapEntry) clock) hs hb hkb hrow (by simp) (.map es clock) (fun hle => ⟨ces, set_get hrow, RepE.mono hle _ _ hes⟩)
            have hgeq : ∀ i, H.get i = (H.set b (.map es clock)).get i := fun i => by
              rw [AHeap.get_set]
              by_cases e : i = b
              · rw [if_pos e, e, hb]
              · rw [if_neg e]
            refine fin (start ?_) (s2.congr hgeq (AHeap.next_set _ _ _).symm) (s3.congr hgeq (AHeap.next_set _ _ _).symm) rfl
            simp only []
            rw [run_bind_ok hget]
            simp only []
            rw [run_bind_ok hck, run_bind_ok h1]
            simp only []
            rw [run_bind_ok s1]; rfl
    case unsafeString =>
      have fin : ∀ {x y' : Value} {y : Value} {w' : World}, args.map ρ' = #[x, y'] → (Builtin.unsafeString_ argTypes type #[x, y']).run C.P w = .ok y w' → Sim B G H' w' → Ext B H G w H' G w' → Rep G w' v y →
          Changed C.P B H G w ((execOp ρ' { dst, op := .call { callee := .builtin .unsafeString, args, argTypes }, type, pos, after, guard }).run C.P w) v H' := by
        intro x y' y w' hxy hr h1 h2 hv
        refine ⟨G, w', h1, h2, .inl ⟨y, hcall (r := .ok y w') ?_ rfl, hv⟩⟩
        intro w'' x' hr'
        rw [hxy]
        refine run_value ?_
        rw [hr]; exact hr'
      split at h <;> try contradiction
      · rename_i k hargs
        obtain ⟨x, y', hxy, hdx, hsy⟩ := args_two hρ hargs
        have hne := (cond_none h).1
        have h2 := (cond_none h).2
        simp only [Option.some.injEq, Prod.mk.injEq] at h2
        obtain ⟨rfl, rfl⟩ := h2
        simp only [Rep] at hdx hsy
        subst hdx; subst hsy
        obtain ⟨pt, hpt⟩ : ∃ pt, argTypes[0]? = some pt := by
          cases hh : argTypes[0]? with
          | none =>
            exfalso
            have : argTypes.size = 0 := by simpa using hh
            have : argTypes = #[] := Array.eq_empty_of_size_eq_zero this
            subst this
            simp at hne
          | some pt => exact ⟨pt, rfl⟩
        refine fin (w' := w) (y := .string .empty) hxy ?_ hs (Ext.refl _ _ _ _) (by simp [Rep])
        exact us_zero hpt _ _
      · rename_i b off k n hargs
        obtain ⟨x, y', hxy, hdx, hsy⟩ := args_two hρ hargs
        have hc := (cond_none h).1
        have h2 := (cond_none h).2
        simp only [Bool.or_eq_false_iff, Bool.not_eq_false', ble_dec, decide_eq_true_iff, decide_eq_false_iff_not] at hc
        split at h2 <;> try contradiction
        rename_i cs ty frz u hb hpu
        obtain ⟨pt, hpt, hu⟩ := bind_some hpu
        simp only [Rep] at hsy
        subst hsy
        by_cases hn0 : n = 0
        · subst hn0
          simp only [decide_true, cond_true, Option.some.injEq, Prod.mk.injEq] at h2
          obtain ⟨rfl, rfl⟩ := h2
          simp only [Rep] at hdx
          obtain ⟨kk, _, rfl⟩ := hdx
          refine fin (w' := w) (y := .string .empty) hxy ?_ hs (Ext.refl _ _ _ _) (by simp [Rep])
          exact us_zero hpt _ _
        · rw [decide_eq_false hn0] at h2
          simp only [cond_false] at h2
          have hl := (cond_none h2).1
          replace h2 := (cond_none h2).2
          simp only [Bool.not_eq_false'] at hl
          split at h2 <;> try contradiction
          rename_i vs hr
          obtain ⟨s, hs', h3⟩ := map_some h2
          simp only [Prod.mk.injEq] at h3
          obtain ⟨rfl, rfl⟩ := h3
          obtain ⟨y, w', g1, g2, g3, g4⟩ := unsafeString_sound (P := C.P) (type := type) (k := k) hs hpt hu hdx (by omega) hc.2 hb hl hr hs'
          exact fin hxy g1 g3 g4 g2
end
end Go.AX
end
section
open Go (execOp)
/- AX: one operation of a frame: what it does is what the executor says. -/
namespace Go.AX

section
variable {C : Cfg} {P : Program} {B : Nat} {G : Ghost} {H : AHeap} {w : World}

/-- a frame's temporaries -/
structure EnvRep (G : Ghost) (w : World) (env : Env) (size : Nat) (tmps : Array Value) : Prop where
  size : tmps.size = size
  get : ∀ t v, env.get t = some v → ∃ x, tmps[t]? = some x ∧ Rep G w v x

theorem EnvRep.mono {G' : Ghost} {w' : World} {env : Env} {size : Nat} {tmps : Array Value} (hle : Le G w G' w') (h : EnvRep G w env size tmps) : EnvRep G' w' env size tmps :=
  ⟨h.size, fun t v ht => let ⟨x, h1, h2⟩ := h.get t v ht; ⟨x, h1, Rep.mono hle v x h2⟩⟩

/-- the package-level variables that are known -/
def GlobOk (C : Cfg) (G : Ghost) (w : World) : Prop := ∀ g cs, C.glob g = some cs → Rep G w (.lptr cs) (.pointer (some ⟨g, 0, none⟩))

theorem GlobOk.mono {G' : Ghost} {w' : World} (hle : Le G w G' w') (h : GlobOk C G w) : GlobOk C G' w' := fun g cs hg => Rep.mono hle _ _ (h g cs hg)

theorem repO {env : Env} {size : Nat} {a : Act} (he : EnvRep G w env size a.tmps) (hg : GlobOk C G w) : RepO G w (evalO C env) a.eval := by
  intro x v hx
  cases x with
  | tmp t =>
    obtain ⟨y, h1, h2⟩ := he.get t v hx
    have : a.eval (.tmp t) = y := by simp [Act.eval, h1]
    rw [this]; exact h2
  | const c => simp only [evalO, Option.some.injEq] at hx; subst hx; exact rep_ofValue G w c
  | global g =>
    simp only [evalO, Option.some.injEq] at hx
    cases hc : C.glob g with
    | none => rw [hc] at hx; subst hx; simp [Rep, Act.eval]
    | some cs => rw [hc] at hx; subst hx; exact hg g cs hc
  | func f =>
    simp only [evalO, Option.some.injEq] at hx; subst hx
    simp only [Rep, RepL]
    exact ⟨[], [], rfl, rfl, rfl⟩

theorem putA_sound {st st' : St} {dst : Option Tmp} {v : AV} {a : Act} {x : Value} (h : putA st dst v = some st') (he : EnvRep G w st.env st.size a.tmps) (hv : Rep G w v x) :
    EnvRep G w st'.env st'.size (a.put dst x).tmps ∧ st'.H = st.H ∧ st'.dfr = st.dfr ∧ st'.rc = st.rc ∧ st'.size = st.size := by
  unfold putA at h
  cases dst with
  | none => simp only [Option.some.injEq] at h; subst h; exact ⟨he, rfl, rfl, rfl, rfl⟩
  | some d =>
    simp only at h
    obtain ⟨hd, h⟩ := cond_some h
    simp only [Option.some.injEq] at h; subst h
    rw [blt_dec, decide_eq_true_iff] at hd
    refine ⟨⟨by simp [Act.put, he.size], fun t u ht => ?_⟩, rfl, rfl, rfl, rfl⟩
    simp only [Tr.get_set] at ht
    by_cases e : t = d
    · subst e
      rw [if_pos rfl] at ht
      simp only [Option.some.injEq] at ht; subst ht
      exact ⟨x, by simp [Act.put, he.size, hd], hv⟩
    · rw [if_neg e] at ht
      obtain ⟨y, h1, h2⟩ := he.get t u ht
      exact ⟨y, by simp [Act.put, Array.getElem?_setIfInBounds_ne (Ne.symm e), h1], h2⟩

/-- the calls that a frame has deferred -/
def DfrRep (n₀ : Nat) (G : Ghost) (w : World) (P : Program) (H : AHeap) : List Dfr → List Deferred → Prop
  | [], ds => ds = []
  | .call f args cap :: r, ds => ∃ d ds', ds = d :: ds' ∧ (∃ fv cp xs, d.target = .fn fv cp ∧ (∀ w, (invoke d.target d.args).run P w = .ok (.enter f ⟨xs⟩) w) ∧ RepL G w (args ++ cap) xs) ∧ DfrRep n₀ G w P H r ds'
  | .mark :: r, ds => ∃ d ds' k, ds = d :: ds' ∧ d.target = .collected k ∧ n₀ ≤ k ∧ w.heap[k]? = some (.deferred (some [])) ∧ (∀ i b, H.get i = some b → G.β i ≠ some k) ∧
      (∀ d' ∈ ds', d'.target ≠ .collected k) ∧ DfrRep n₀ G w P H r ds'

theorem DfrRep.mono {n₀ : Nat} {H' : AHeap} {G' : Ghost} {w' : World} (hs : Sim B G H w) (he : Ext0 B H G w H' G' w') : ∀ {r : List Dfr} {ds : List Deferred}, DfrRep n₀ G w P H r ds → DfrRep n₀ G' w' P H' r ds
  | [], ds, h => h
  | .call f args cap :: r, ds, h => by
    obtain ⟨d, ds', rfl, ⟨fv, cp, xs, h1, h2, h3⟩, h4⟩ := h
    exact ⟨d, ds', rfl, ⟨fv, cp, xs, h1, h2, RepL.mono (he.le hs) _ _ h3⟩, DfrRep.mono hs he h4⟩
  | .mark :: r, ds, h => by
    obtain ⟨d, ds', k, rfl, h1, h0, h2, h3, h4, h5⟩ := h
    have hk : k < w.heap.size := (Array.getElem?_eq_some_iff.1 h2).1
    refine ⟨d, ds', k, rfl, h1, h0, (he.other k hk h3).trans h2, fun i b hi hb => ?_, h4, DfrRep.mono hs he h5⟩
    obtain ⟨i', b', g1, g2⟩ := he.live i b k hi hb hk
    exact h3 i' b' g1 g2

/-- a frame under way -/
structure StRep (C : Cfg) (B n₀ : Nat) (G : Ghost) (st : St) (a : Act) (w : World) : Prop where
  env : EnvRep G w st.env st.size a.tmps
  sim : Sim B G st.H w
  glob : GlobOk C G w
  dfr : DfrRep n₀ G w C.P st.H st.dfr a.defers

theorem StRep.later {n₀ : Nat} {st st' : St} {a a' : Act} {G' : Ghost} {w' : World} (h : StRep C B n₀ G st a w) (hs : Sim B G' st'.H w') (he : Ext B st.H G w st'.H G' w')
    (henv : EnvRep G' w' st'.env st'.size a'.tmps) (hd : st'.dfr = st.dfr) (had : a'.defers = a.defers) : StRep C B n₀ G' st' a' w' :=
  ⟨henv, hs, h.glob.mono (he.le h.sim), by rw [hd, had]; exact DfrRep.mono h.sim he.toExt0 h.dfr⟩

theorem put_defers (a : Act) (d : Option Tmp) (v : Value) : (a.put d v).defers = a.defers := by cases d <;> rfl

theorem callFunc_body {g : FuncId} (hb : hasBody P g = true) (xs : Array Value) (w : World) : (callFunc g xs).run P w = .ok (.enter g xs) w := by
  unfold hasBody at hb
  cases hf : P.funcs[g]? with
  | none => rw [hf] at hb; simp at hb
  | some fn =>
    rw [hf] at hb
    simp only [Bool.and_eq_true, Bool.not_eq_true'] at hb
    have hn : fn.body.isNone = false := by cases hbb : fn.body <;> simp [hbb] at hb ⊢
    rw [callFunc, run_bind_ok (a := P) (w' := w) rfl]
    simp only [hf, hb.2, hn, Bool.false_eq_true, if_false]
    rfl

theorem invoke_method (v : Value) (l : List Value) (name : String) (cp : Array Value) : invoke (.fn (.method name) cp) ⟨v :: l⟩ = callMethod v name ⟨l⟩ := by
  have e : (⟨v :: l⟩ : Array Value).extract 1 (l.length + 1) = ⟨l⟩ := by apply Array.ext'; simp
  have : invoke (.fn (.method name) cp) ⟨v :: l⟩ = callMethod v name ((⟨v :: l⟩ : Array Value).extract 1 (l.length + 1)) := rfl
  rw [this, e]

/-- the callee, found -/
theorem called_sound {ρ : Operand → Option AV} {ρ' : Operand → Value} (hρ : RepO G w ρ ρ') {c : Call} {type : TypeId} {f : FuncId} {args cap : List AV} (h : calledA C ρ c = some (f, args, cap)) :
    ∃ d fv cp xs, (∀ w, (resolve ρ' c type).run C.P w = .ok d w) ∧ d.target = .fn fv cp ∧ (∀ w, (invoke d.target d.args).run C.P w = (callFunc f ⟨xs⟩).run C.P w) ∧ RepL G w (args ++ cap) xs := by
  unfold calledA at h
  split at h <;> try contradiction
  rename_i g first captured us hc hu
  simp only [Option.some.injEq, Prod.mk.injEq] at h
  obtain ⟨rfl, rfl, rfl⟩ := h
  have hus := r_evalL hρ hu
  unfold calleeA at hc
  split at hc
  · rename_i x hcal
    split at hc <;> try contradiction
    rename_i g' first' captured' hx
    simp only [Option.some.injEq, Prod.mk.injEq] at hc
    obtain ⟨rfl, rfl, rfl⟩ := hc
    have hr := hρ _ _ hx
    simp only [Rep] at hr
    obtain ⟨fs, cs, hfx, hf1, hf2⟩ := hr
    refine ⟨{ target := .fn (.func g') ⟨cs⟩, args := ⟨fs⟩ ++ c.args.map ρ' }, _, _, fs ++ (c.args.toList.map ρ') ++ cs, fun w => ?_, rfl, fun w => ?_, ?_⟩
    · unfold resolve
      simp only [hcal, hfx]; rfl
    · show (callFunc g' ((⟨fs⟩ ++ c.args.map ρ') ++ ⟨cs⟩)).run C.P w = _
      congr 2
      apply Array.ext'
      simp
    · exact (hf1.append hus).append hf2
  · rename_i r name hcal
    split at hc <;> try contradiction
    rename_i t v hx
    split at hc <;> try contradiction
    rename_i i hi
    split at hc <;> try contradiction
    rename_i m hm
    split at hc <;> try contradiction
    rename_i g' ptr hp hmf
    have hr := hρ _ _ hx
    simp only [Rep] at hr
    obtain ⟨y, hry, hvy⟩ := hr
    have hpe : m.path = #[] := Array.toList_eq_nil_iff.1 hp
    have meth : ∀ (w : World), g' = g ∧ first = [v] ∧ captured = [] ∧ (Go.method (C.P.types.size + Made.depth) t y name).run C.P w = .ok (g, y) w := by
      intro w
      have hd : C.P.types.size + Made.depth = (C.P.types.size + Made.depth - 1) + 1 := by
        have : 0 < Made.depth := by decide
        omega
      have step : ∀ (wr : Value), (receiverAt t (.val y) ptr (if m.path.isEmpty then some ((name.splitOn ".").getLastD name) else none)).run C.P w = .ok wr w → (Go.method (C.P.types.size + Made.depth) t y name).run C.P w = .ok (g', wr) w := by
        intro wr hwr
        rw [hd, Go.method, run_bind_ok (r_info hi w)]
        simp only [hm]
        rw [run_bind_ok (a := (t, Place.val y)) (w' := w) (by rw [hp]; rfl)]
        simp only [hmf]
        rw [run_bind_ok hwr]; rfl
      split at hc <;> try contradiction
      · rename_i e hu
        simp only [Option.some.injEq, Prod.mk.injEq] at hc
        obtain ⟨rfl, rfl, rfl⟩ := hc
        refine ⟨rfl, rfl, rfl, step y ?_⟩
        rw [receiverAt, run_bind_ok (r_under hu w)]
        rfl
      · rename_i d hnp hu
        simp only [Option.some.injEq, Prod.mk.injEq] at hc
        obtain ⟨rfl, rfl, rfl⟩ := hc
        refine ⟨rfl, rfl, rfl, step y ?_⟩
        rw [receiverAt, run_bind_ok (r_under hu w)]
        cases d <;> first | rfl | exact absurd rfl (hnp _)
    obtain ⟨rfl, rfl, rfl, _⟩ := meth w
    refine ⟨{ target := .fn (.method name) #[], args := #[ρ' r] ++ c.args.map ρ' }, _, _, [y] ++ (c.args.toList.map ρ'), fun w => ?_, rfl, fun w => ?_, ?_⟩
    · unfold resolve
      simp only [hcal]; rfl
    · rw [hry]
      have e0 : (#[Value.iface t y] ++ Array.map ρ' c.args) = ⟨Value.iface t y :: c.args.toList.map ρ'⟩ := by apply Array.ext'; simp
      rw [e0, invoke_method]
      rw [callMethod, run_bind_ok (a := C.P) (w' := w) rfl]
      simp only []
      rw [run_bind_ok (meth w).2.2.2]
      congr 2
      apply Array.ext'
      simp
    · simp only [List.append_nil]
      exact (RepL.one hvy).append hus
  · contradiction

/-- how a call ends -/
def EndRep (G : Ghost) (w : World) : AEnd → Ending → Prop
  | .ret v, .returned x => Rep G w v x
  | .pan v, .panicked ch => ∃ x, ch = [{ v := x, recovered := false }] ∧ Rep G w v x
  | _, _ => False

/-- the executor's calls are the model's -/
def CallOk (C : Cfg) (B : Nat) (call : CallF) : Prop :=
  ∀ f args H r H', call f args H = some (r, H') → ∀ G w xs, Sim B G H w → GlobOk C G w → RepL G w args xs →
    Calls C.P f ⟨xs⟩ w fun e w' => ∃ G', Sim B G' H' w' ∧ Ext B H G w H' G' w' ∧ EndRep G' w' r e

/-- what an operation leaves -/
def Left (C : Cfg) (B n₀ : Nat) (G : Ghost) (st : St) (w : World) (st' : St) (a' : Act) (w' : World) : Prop :=
  ∃ G', StRep C B n₀ G' st' a' w' ∧ Ext B st.H G w st'.H G' w' ∧ st'.rc = st.rc

/-- what has no body -/
def ExtOk (C : Cfg) : Prop :=
  ∀ f args H v H', C.ext f args H = some (v, H') → ∀ B G w xs, Sim B G H w → RepL G w args xs → ∃ x w' G', (callFunc f ⟨xs⟩).run C.P w = .ok (.value x) w' ∧ Sim B G' H' w' ∧ Ext B H G w H' G' w' ∧ Rep G' w' v x

theorem op_sound {n₀ : Nat} {call : CallF} (hext : ExtOk C) (hcall : CallOk C B call) {o : Oper} {st : St} {r : SRes} {a : Act} (h : runOp C call o none st = some r) (hst : StRep C B n₀ G st a w)
    (hw : wayOf C.P o ≠ .recover) {next : Act → World → Prop} {Q : Exit → Act → World → Prop}
    (hgo : ∀ st' a' w', r = .go st' → Left C B n₀ G st w st' a' w' → next a' w')
    (hpan : ∀ v st' x a' w', r = .pan v st' → (∃ G', StRep C B n₀ G' st' a' w' ∧ Ext B st.H G w st'.H G' w' ∧ st'.rc = st.rc ∧ Rep G' w' v x) → Q (.panic [{ v := x, recovered := false }]) a' w') :
    o.upon C.P a next Q ((execOp a.eval o).run C.P w) := by
  have hρ := repO hst.env hst.glob
  -- a value, nothing else turned
  have plain : ∀ {v : AV} {x : Value}, (putA st o.dst v).map SRes.go = some r → (execOp a.eval o).run C.P w = .ok (.value x) w → Rep G w v x → o.upon C.P a next Q ((execOp a.eval o).run C.P w) := by
    intro v x hp hr hv
    rw [hr]
    rw [Option.map_eq_some_iff] at hp
    obtain ⟨st', hp, rfl⟩ := hp
    obtain ⟨h1, h2, h3, h4, h5⟩ := putA_sound (show putA st o.dst v = some st' from hp) hst.env hv
    exact hgo st' _ _ rfl ⟨G, ⟨h1, h2 ▸ hst.sim, hst.glob, by rw [h3, h2, put_defers]; exact hst.dfr⟩, h2 ▸ Ext.refl _ _ _ _, h4⟩
  unfold runOp at h
  simp only at h
  cases hway : wayOf C.P o with
  | recover => exact absurd hway hw
  | pure =>
    rw [hway] at h
    obtain ⟨v, h1, h2⟩ := bind_some h
    obtain ⟨x, hx, hr⟩ := evalPure_sound hρ h1
    exact plain h2 hx hr
  | read =>
    rw [hway] at h
    obtain ⟨v, h1, h2⟩ := bind_some h
    obtain ⟨x, hx, hr⟩ := evalRead_sound hst.sim hρ h1
    exact plain h2 hx hr
  | chg =>
    rw [hway] at h
    obtain ⟨⟨v, H'⟩, h1, h2⟩ := bind_some h
    obtain ⟨st', hp, rfl⟩ := map_some h2
    obtain ⟨G', w', hs', he', hres⟩ := evalChg_sound hst.sim hρ h1
    have henv := EnvRep.mono (he'.le hst.sim) hst.env
    rcases hres with ⟨x, hr, hv⟩ | ⟨hr, rfl⟩
    · rw [hr]
      obtain ⟨g1, g2, g3, g4, g5⟩ := putA_sound (st := { st with H := H' }) hp henv hv
      exact hgo st' _ _ rfl ⟨G', hst.later (g2 ▸ hs') (g2 ▸ he') g1 g3 (put_defers _ _ _), g2 ▸ he', g4⟩
    · rw [hr]
      obtain ⟨g1, g2, g3, g4, g5⟩ := putA_sound (st := { st with H := H' }) (x := undef) hp henv (by simp [AV.undef, Rep, RepL, undef])
      exact hgo st' _ _ rfl ⟨G', hst.later (g2 ▸ hs') (g2 ▸ he') g1 g3 (put_defers _ _ _), g2 ▸ he', g4⟩
  | fresh =>
    rw [hway] at h
    obtain ⟨⟨v, blk⟩, h1, h2⟩ := bind_some h
    obtain ⟨st', hp, rfl⟩ := map_some h2
    obtain ⟨ob, x, hr, hb, hv⟩ := evalFresh_sound hst.sim.nsmall hρ h1
    obtain ⟨G', e1, hs', he'⟩ := hst.sim.push hb
    rw [hr]
    have henv := EnvRep.mono (he'.le hst.sim) hst.env
    obtain ⟨g1, g2, g3, g4, g5⟩ := putA_sound (st := { st with H := st.H.push blk }) hp henv (hv G' e1)
    exact hgo st' _ _ rfl ⟨G', hst.later (g2 ▸ hs') (g2 ▸ he') g1 g3 (put_defers _ _ _), g2 ▸ he', g4⟩
  | call c =>
    rw [hway] at h
    obtain ⟨⟨f, args, cap⟩, h1, h2⟩ := bind_some h
    obtain ⟨d, fv, cp, xs, hres, htar, hinv, hxs⟩ := called_sound (type := o.type) hρ h1
    have hop : o.op = .call c := by
      unfold wayOf at hway
      split at hway <;> try contradiction
      split at hway <;> try contradiction
      rename_i c' hc'
      split at hway <;> try contradiction
      simp only [Way.call.injEq] at hway; subst hway; exact hc'
    have hrun0 : (execOp a.eval o).run C.P w = (callFunc f ⟨xs⟩).run C.P w := by
      unfold execOp
      simp only [hop]
      rw [run_bind_ok (hres w)]
      exact hinv w
    cases hb : hasBody C.P f with
    | false =>
      rw [hb] at h2
      simp only [cond_false] at h2
      obtain ⟨⟨v, H'⟩, hv, h4⟩ := bind_some h2
      obtain ⟨st', hp, rfl⟩ := map_some h4
      obtain ⟨x, w', G', hx, hs', he', hr⟩ := hext f _ st.H v H' hv B G w xs hst.sim hxs
      rw [hrun0, hx]
      have henv := EnvRep.mono (he'.le hst.sim) hst.env
      obtain ⟨g1, g2, g3, g4, g5⟩ := putA_sound (st := { st with H := H' }) hp henv hr
      exact hgo st' _ _ rfl ⟨G', hst.later (g2 ▸ hs') (g2 ▸ he') g1 g3 (put_defers _ _ _), g2 ▸ he', g4⟩
    | true =>
    rw [hb] at h2
    simp only [cond_true] at h2
    obtain ⟨⟨end', H'⟩, h3, h4⟩ := bind_some h2
    have hrun : (execOp a.eval o).run C.P w = .ok (.enter f ⟨xs⟩) w := hrun0.trans (callFunc_body hb _ _)
    rw [hrun, Oper.upon_enter]
    refine Calls.mono (hcall f _ st.H end' H' h3 G w xs hst.sim hst.glob hxs) fun e w' he => ?_
    obtain ⟨G', hs', he', hend⟩ := he
    have henv := EnvRep.mono (he'.le hst.sim) hst.env
    cases end' with
    | ret v =>
      obtain ⟨st', hp, rfl⟩ := map_some h4
      cases e <;> simp only [EndRep] at hend
      rename_i x
      obtain ⟨g1, g2, g3, g4, g5⟩ := putA_sound (st := { st with H := H' }) hp henv hend
      exact hgo st' _ _ rfl ⟨G', hst.later (g2 ▸ hs') (g2 ▸ he') g1 g3 (put_defers _ _ _), g2 ▸ he', g4⟩
    | pan v =>
      simp only [Option.some.injEq] at h4
      cases e <;> simp only [EndRep] at hend
      obtain ⟨x, rfl, hx⟩ := hend
      exact hpan v _ x a w' h4.symm ⟨G', hst.later (st' := { st with H := H' }) hs' he' henv rfl rfl, he', rfl, hx⟩
  | defer c =>
    rw [hway] at h
    obtain ⟨⟨f, args, cap⟩, h1, h2⟩ := bind_some h
    have hb := (cond_none h2).1
    replace h2 := (cond_none h2).2
    simp only [Bool.not_eq_false'] at hb
    obtain ⟨st', hp, rfl⟩ := map_some h2
    obtain ⟨d, fv, cp, xs, hres, htar, hinv, hxs⟩ := called_sound (type := o.type) hρ h1
    have hop : o.op = .defer c := by
      unfold wayOf at hway
      split at hway <;> try contradiction
      split at hway <;> try contradiction
      · split at hway <;> try contradiction
      · rename_i c' hc'
        simp only [Way.defer.injEq] at hway; subst hway; exact hc'
    have hrun : (execOp a.eval o).run C.P w = .ok (.defer d) w := by
      unfold execOp
      simp only [hop]
      rw [run_bind_ok (hres w)]
      rfl
    rw [hrun, Oper.upon_defer]
    obtain ⟨g1, g2, g3, g4, g5⟩ := putA_sound (st := { st with dfr := .call f args cap :: st.dfr }) (a := { a with defers := d :: a.defers }) (x := undef) hp hst.env (by simp [AV.undef, Rep, RepL, undef])
    refine hgo st' _ _ rfl ⟨G, ⟨g1, g2 ▸ hst.sim, hst.glob, ?_⟩, g2 ▸ Ext.refl _ _ _ _, g4⟩
    rw [g3, g2, put_defers]
    exact ⟨d, _, rfl, ⟨fv, cp, xs, htar, fun w => (hinv w).trans (callFunc_body hb _ _), hxs⟩, hst.dfr⟩
  | panic x =>
    rw [hway] at h
    obtain ⟨v, h1, h2⟩ := bind_some h
    obtain ⟨u, h3, rfl⟩ := map_some h2
    have hop : o.op = .panic x := by
      unfold wayOf at hway
      split at hway <;> try contradiction
      split at hway <;> try contradiction
      · split at hway <;> try contradiction
      · rename_i c' hc'
        simp only [Way.panic.injEq] at hway; subst hway; exact hc'
    have hv := hρ _ _ h1
    unfold panicA at h3
    split at h3 <;> try contradiction
    rename_i t y
    simp only [Option.some.injEq] at h3; subst h3
    have hv' := hv
    simp only [Rep] at hv'
    obtain ⟨z, hz, _⟩ := hv'
    have hrun : (execOp a.eval o).run C.P w = .halt (.panic (.iface t z)) w := by
      unfold execOp
      simp only [hop, hz]
      rfl
    rw [hrun, Oper.upon_panic]
    exact hpan _ _ _ _ _ rfl ⟨G, hst, Ext.refl _ _ _ _, rfl, hz ▸ hv⟩
end
end Go.AX
end
section
open Go (execOp)
/- AX: a region's operations, one behind the other. -/
namespace Go.AX

section
variable {C : Cfg} {P : Program} {B n₀ : Nat} {G : Ghost} {H : AHeap} {w : World}

theorem wanted_sound {ops : Array Oper} {env : Env} {size : Nat} {tmps : Array Value} {o : Oper} {b : Bool} (he : EnvRep G w env size tmps) (h : wantedA ops env o = some b) :
    Region.wanted o (yielded ops tmps) = b := by
  unfold wantedA at h
  unfold Region.wanted
  cases hg : o.guard with
  | none => rw [hg] at h; simp at h; subst h; rfl
  | some jw =>
    obtain ⟨j, want⟩ := jw
    rw [hg] at h
    simp only at h ⊢
    unfold yielded
    cases hd : (ops[j]?).bind (·.dst) with
    | none => rw [hd] at h; simp at h; subst h; simp
    | some d =>
      rw [hd] at h
      simp only [Option.bind_some] at h ⊢
      cases hv : env.get d with
      | none => rw [hv] at h; simp at h
      | some v =>
        rw [hv] at h
        obtain ⟨x, hx, hr⟩ := he.get d v hv
        rw [hx]
        cases v <;> simp only at h <;> (try contradiction) <;> simp only [Option.some.injEq] at h <;> subst h <;> simp only [Rep] at hr
        all_goals first
          | (subst hr; first | (rename_i bb; cases bb <;> cases want <;> rfl) | simp)
          | (obtain ⟨y, rfl, _⟩ := hr; simp)
          | (obtain ⟨y, _, rfl⟩ := hr; simp)
          | (obtain ⟨y, rfl⟩ := hr; simp)
          | (obtain ⟨y, z, u, rfl, _⟩ := hr; simp)
          | (obtain ⟨y, z, _, rfl, _⟩ := hr; simp)
          | (obtain ⟨y, z, rfl, _⟩ := hr; simp)
          | (obtain ⟨y, z, u, t, rfl, _⟩ := hr; simp)

theorem undef_rep : Rep G w .undef undef := by simp [AV.undef, Rep, RepL, undef]

/-- what an operation that is not wanted leaves -/
theorem skip_sound {o : Oper} {st st' : St} {a : Act} (h : putA st o.dst .undef = some st') (hst : StRep C B n₀ G st a w) : StRep C B n₀ G st' (a.put o.dst undef) w ∧ st'.H = st.H ∧ st'.rc = st.rc := by
  obtain ⟨g1, g2, g3, g4, g5⟩ := putA_sound h hst.env undef_rep
  exact ⟨⟨g1, g2 ▸ hst.sim, hst.glob, by rw [g3, g2, put_defers]; exact hst.dfr⟩, g2, g4⟩

theorem Left.trans {st st1 st2 : St} {w1 w2 : World} {a2 : Act} {G1 : Ghost} (h : Ext B st.H G w st1.H G1 w1) (hr : st1.rc = st.rc) (k : Left C B n₀ G1 st1 w1 st2 a2 w2) : Left C B n₀ G st w st2 a2 w2 :=
  let ⟨G', h1, h2, h3⟩ := k
  ⟨G', h1, h.trans h2, h3.trans hr⟩

theorem drop_cons {α : Type} {l : List α} {k : Nat} {x : α} {xs : List α} (h : l.drop k = x :: xs) : l[k]? = some x ∧ l.drop (k + 1) = xs := by
  constructor
  · have := congrArg (fun l => l[0]?) h
    simpa using this
  · have := congrArg List.tail h
    simpa using this

theorem ops_sound {call : CallF} (hext : ExtOk C) (hcall : CallOk C B call) {ops : Array Oper} {Q : Exit → Act → World → Prop} : ∀ (os : List Oper) (k : Nat) (st : St) (r : SRes) (a : Act) (G : Ghost) (w : World),
    ops.toList.drop k = os → runOps C call ops os st = some r → StRep C B n₀ G st a w → st.rc = .off →
    (∀ st' a' w', r = .go st' → Left C B n₀ G st w st' a' w' → Q .normal a' w') →
    (∀ v st' x a' w', r = .pan v st' → (∃ G', StRep C B n₀ G' st' a' w' ∧ Ext B st.H G w st'.H G' w' ∧ st'.rc = st.rc ∧ Rep G' w' v x) → Q (.panic [{ v := x, recovered := false }]) a' w') →
    wpOps C.P ops Q (List.range' k os.length) a w
  | [], k, st, r, a, G, w, hd, h, hst, hrc, hgo, hpan => by
    simp only [runOps, Option.some.injEq] at h
    subst h
    exact hgo st a w rfl ⟨G, hst, Ext.refl _ _ _ _, rfl⟩
  | o :: os, k, st, r, a, G, w, hd, h, hst, hrc, hgo, hpan => by
    obtain ⟨ho, hd'⟩ := drop_cons hd
    have ho : ops[k]? = some o := by simpa using ho
    simp only [List.length_cons, List.range'_succ, wpOps, ho]
    simp only [runOps] at h
    unfold stepA at h
    cases hw : wantedA ops st.env o with
    | none => rw [hw] at h; simp at h
    | some b =>
      rw [wanted_sound hst.env hw]
      rw [hw] at h
      cases b with
      | false =>
        simp only [Bool.false_eq_true, if_false]
        simp only at h
        cases hp : putA st o.dst .undef with
        | none => rw [hp] at h; simp at h
        | some st1 =>
          rw [hp] at h
          obtain ⟨g1, g2, g3⟩ := skip_sound hp hst
          have he : Ext B st.H G w st1.H G w := g2 ▸ Ext.refl _ _ _ _
          exact ops_sound hext hcall os (k + 1) st1 r _ G w hd' h g1 (g3.trans hrc) (fun st' a' w' hr hl => hgo st' a' w' hr (hl.trans he g3))
            (fun v st' x a' w' hr ⟨G', e1, e2, e3, e4⟩ => hpan v st' x a' w' hr ⟨G', e1, he.trans e2, e3.trans g3, e4⟩)
      | true =>
        simp only [if_true]
        simp only at h
        left
        cases hr : runOp C call o none st with
        | none => rw [hr] at h; simp at h
        | some r1 =>
          rw [hr] at h
          have hway : wayOf C.P o ≠ .recover := by
            intro e
            unfold runOp at hr
            simp only [e, hrc] at hr
            cases hr
          refine op_sound hext hcall hr hst hway (fun st1 a1 w1 e hl => ?_) (fun v st1 x a1 w1 e hl => ?_)
          · subst e
            obtain ⟨G1, e1, e2, e3⟩ := hl
            exact ops_sound hext hcall os (k + 1) st1 r a1 G1 w1 hd' h e1 (e3.trans hrc) (fun st' a' w' hr hl => hgo st' a' w' hr (hl.trans e2 e3))
              (fun v st' x a' w' hr ⟨G', d1, d2, d3, d4⟩ => hpan v st' x a' w' hr ⟨G', d1, e2.trans d2, d3.trans e3, d4⟩)
          · subst e
            simp only [Option.some.injEq] at h
            subst h
            exact hpan v st1 x a1 w1 rfl hl

/-- what 'recover' would find, in the frame of a deferred call -/
def RcRep (c₀ : Frame) (cs₀ : List Frame) (G : Ghost) (w : World) : Rc → List Frame → Prop
  | .off, _ => True
  | .nil, cs => ∃ u, cs = { c₀ with mode := u } :: cs₀ ∧ (u = .returning ∨ ∃ x, u = .panicking [{ v := x, recovered := true }])
  | .val v, cs => ∃ x, cs = { c₀ with mode := .panicking [{ v := x, recovered := false }] } :: cs₀ ∧ Rep G w v x

theorem RcRep.mono {c₀ : Frame} {cs₀ : List Frame} {G' : Ghost} {w' : World} (hle : Le G w G' w') {rc : Rc} {cs : List Frame} (h : RcRep c₀ cs₀ G w rc cs) : RcRep c₀ cs₀ G' w' rc cs := by
  cases rc with
  | off => trivial
  | nil => exact h
  | val v => obtain ⟨x, h1, h2⟩ := h; exact ⟨x, h1, Rep.mono hle _ _ h2⟩

def Rc.isOff : Rc → Bool
  | .off => true
  | _ => false

/-- what a frame's operations leave, in the frame of a deferred call -/
def LeftS (C : Cfg) (B n₀ : Nat) (c₀ : Frame) (cs₀ : List Frame) (G : Ghost) (st : St) (w : World) (st' : St) (a' : Act) (cs' : List Frame) (w' : World) : Prop :=
  ∃ G', StRep C B n₀ G' st' a' w' ∧ Ext B st.H G w st'.H G' w' ∧ RcRep c₀ cs₀ G' w' st'.rc cs' ∧ st'.rc.isOff = false

theorem recover_sound {o : Oper} {st : St} {r : SRes} {a : Act} {call : CallF} {c₀ : Frame} {cs₀ cs : List Frame} (h : runOp C call o none st = some r) (hst : StRep C B n₀ G st a w) (hw : wayOf C.P o = .recover)
    (hrc : RcRep c₀ cs₀ G w st.rc cs) (hoff : st.rc.isOff = false) :
    (execOp a.eval o).run C.P w = .ok .recover w ∧ ∃ st', r = .go st' ∧
      (match recoverD cs with
       | some (v, cs') => LeftS C B n₀ c₀ cs₀ G st w st' (a.put o.dst v) cs' w
       | none => LeftS C B n₀ c₀ cs₀ G st w st' (a.put o.dst .nilIface) cs w) := by
  have hop : ∃ args ats, o.op = .call { callee := .builtin .recover, args, argTypes := ats } := by
    unfold wayOf at hw
    split at hw <;> try contradiction
    split at hw <;> try contradiction
    rename_i c hc
    obtain ⟨callee, args, ats⟩ := c
    split at hw <;> try contradiction
    rename_i hcal
    simp only at hcal
    subst hcal
    exact ⟨args, ats, hc⟩
  obtain ⟨args, ats, hop⟩ := hop
  refine ⟨by unfold execOp; simp only [hop]; rfl, ?_⟩
  unfold runOp at h
  simp only [hw] at h
  cases hr : st.rc with
  | off => rw [hr] at hoff; simp [Rc.isOff] at hoff
  | nil =>
    rw [hr] at h hrc
    obtain ⟨st', hp, rfl⟩ := map_some h
    obtain ⟨u, rfl, hu⟩ := hrc
    refine ⟨st', rfl, ?_⟩
    have hn : recoverD ({ c₀ with mode := u } :: cs₀) = none := by
      rcases hu with rfl | ⟨x, rfl⟩ <;> rfl
    rw [hn]
    obtain ⟨g1, g2, g3, g4, g5⟩ := putA_sound (x := .nilIface) hp hst.env (by simp [Rep])
    exact ⟨G, ⟨g1, g2 ▸ hst.sim, hst.glob, by rw [g3, g2, put_defers]; exact hst.dfr⟩, g2 ▸ Ext.refl _ _ _ _, by rw [g4, hr]; exact ⟨u, rfl, hu⟩, by rw [g4, hr]; rfl⟩
  | val v =>
    rw [hr] at h hrc
    obtain ⟨st', hp, rfl⟩ := map_some h
    obtain ⟨x, rfl, hx⟩ := hrc
    refine ⟨st', rfl, ?_⟩
    have hn : recoverD ({ c₀ with mode := .panicking [{ v := x, recovered := false }] } :: cs₀) = some (x, { c₀ with mode := .panicking [{ v := x, recovered := true }] } :: cs₀) := rfl
    rw [hn]
    obtain ⟨g1, g2, g3, g4, g5⟩ := putA_sound (st := { st with rc := .nil }) (x := x) hp hst.env hx
    exact ⟨G, ⟨g1, g2 ▸ hst.sim, hst.glob, by rw [g3, g2, put_defers]; exact hst.dfr⟩, g2 ▸ Ext.refl _ _ _ _, by rw [g4]; exact ⟨_, rfl, .inr ⟨x, rfl⟩⟩, by rw [g4]; rfl⟩

theorem opsS_sound {call : CallF} (hext : ExtOk C) (hcall : CallOk C B call) {c₀ : Frame} {cs₀ : List Frame} {ops : Array Oper} {Q : Exit → Act → List Frame → World → Prop} :
    ∀ (os : List Oper) (k : Nat) (st : St) (r : SRes) (a : Act) (G : Ghost) (w : World) (cs : List Frame),
    ops.toList.drop k = os → runOps C call ops os st = some r → StRep C B n₀ G st a w → RcRep c₀ cs₀ G w st.rc cs → st.rc.isOff = false →
    (∀ st' a' cs' w', r = .go st' → LeftS C B n₀ c₀ cs₀ G st w st' a' cs' w' → Q .normal a' cs' w') →
    (∀ v st' x a' cs' w', r = .pan v st' → (∃ G', StRep C B n₀ G' st' a' w' ∧ Ext B st.H G w st'.H G' w' ∧ RcRep c₀ cs₀ G' w' st'.rc cs' ∧ st'.rc.isOff = false ∧ Rep G' w' v x) → Q (.panic [{ v := x, recovered := false }]) a' cs' w') →
    wpOpsS C.P ops Q (List.range' k os.length) a cs w
  | [], k, st, r, a, G, w, cs, hd, h, hst, hrc, hoff, hgo, hpan => by
    simp only [runOps, Option.some.injEq] at h
    subst h
    exact hgo st a cs w rfl ⟨G, hst, Ext.refl _ _ _ _, hrc, hoff⟩
  | o :: os, k, st, r, a, G, w, cs, hd, h, hst, hrc, hoff, hgo, hpan => by
    obtain ⟨ho, hd'⟩ := drop_cons hd
    have ho : ops[k]? = some o := by simpa using ho
    simp only [List.length_cons, List.range'_succ, wpOpsS, ho]
    simp only [runOps] at h
    unfold stepA at h
    have onward : ∀ {st1 : St} {a1 : Act} {cs1 : List Frame} {w1 : World}, runOps C call ops os st1 = some r → LeftS C B n₀ c₀ cs₀ G st w st1 a1 cs1 w1 → wpOpsS C.P ops Q (List.range' (k + 1) os.length) a1 cs1 w1 := by
      intro st1 a1 cs1 w1 h1 ⟨G1, e1, e2, e3, e4⟩
      exact opsS_sound hext hcall os (k + 1) st1 r a1 G1 w1 cs1 hd' h1 e1 e3 e4
        (fun st' a' cs' w' hr ⟨G', d1, d2, d3, d4⟩ => hgo st' a' cs' w' hr ⟨G', d1, e2.trans d2, d3, d4⟩)
        (fun v st' x a' cs' w' hr ⟨G', d1, d2, d3, d4, d5⟩ => hpan v st' x a' cs' w' hr ⟨G', d1, e2.trans d2, d3, d4, d5⟩)
    cases hw : wantedA ops st.env o with
    | none => rw [hw] at h; simp at h
    | some b =>
      rw [wanted_sound hst.env hw]
      rw [hw] at h
      cases b with
      | false =>
        simp only [Bool.false_eq_true, if_false]
        simp only at h
        cases hp : putA st o.dst .undef with
        | none => rw [hp] at h; simp at h
        | some st1 =>
          rw [hp] at h
          obtain ⟨g1, g2, g3⟩ := skip_sound hp hst
          exact onward h ⟨G, g1, g2 ▸ Ext.refl _ _ _ _, g3 ▸ hrc, g3 ▸ hoff⟩
      | true =>
        simp only [if_true]
        simp only at h
        cases hr : runOp C call o none st with
        | none => rw [hr] at h; simp at h
        | some r1 =>
          rw [hr] at h
          by_cases hway : wayOf C.P o = .recover
          · obtain ⟨g1, st1, rfl, g2⟩ := recover_sound hr hst hway hrc hoff
            rw [g1]
            simp only
            split
            · rename_i v cs' hrec
              rw [hrec] at g2
              exact onward h g2
            · rename_i hrec
              rw [hrec] at g2
              exact onward h g2
          · have hup := op_sound (Q := fun e a' w' => Q e a' cs w') (next := fun a' w' => wpOpsS C.P ops Q (List.range' (k + 1) os.length) a' cs w') hext hcall hr hst hway (fun st1 a1 w1 e hl => ?_) (fun v st1 x a1 w1 e hl => ?_)
            · split
              · rename_i w1 hrun
                rw [hrun] at hup
                exact hup.elim
              · exact hup
            · subst e
              obtain ⟨G1, e1, e2, e3⟩ := hl
              exact onward h ⟨G1, e1, e2, by rw [e3]; exact hrc.mono (e2.le hst.sim), by rw [e3]; exact hoff⟩
            · subst e
              simp only [Option.some.injEq] at h
              subst h
              obtain ⟨G1, e1, e2, e3, e4⟩ := hl
              exact hpan v st1 x a1 cs w1 rfl ⟨G1, e1, e2, by rw [e3]; exact hrc.mono (e2.le hst.sim), by rw [e3]; exact hoff, e4⟩
end
end Go.AX
end
section
open Go (execOp)
/- AX: a region whose order is drawn: what its one run says. -/
namespace Go.AX

/-- a set of operations that holds what must come ahead of each -/
def ClosedS (ops : Array Oper) (S : Nat → Prop) : Prop := ∀ i o, ops[i]? = some o → S i → ∀ e ∈ o.after, Region.binds .any e = true → S e.on

theorem one_bits (look : Nat → Nat) : ∀ (l : List Edge) (s j : Nat), (l.foldl (fun s e => if Region.binds .any e then s ||| 2 ^ e.on ||| look e.on else s) s).testBit j = true →
    s.testBit j = true ∨ ∃ e ∈ l, Region.binds .any e = true ∧ (j = e.on ∨ (look e.on).testBit j = true)
  | [], s, j, h => .inl h
  | e :: l, s, j, h => by
    simp only [List.foldl_cons] at h
    rcases one_bits look l _ j h with h | ⟨e', he', h⟩
    · by_cases hb : Region.binds .any e = true
      · rw [if_pos hb] at h
        simp only [Nat.testBit_or, Bool.or_eq_true] at h
        rcases h with (h | h) | h
        · exact .inl h
        · rw [Nat.testBit_two_pow] at h
          simp only [decide_eq_true_iff] at h
          exact .inr ⟨e, List.mem_cons_self, hb, .inl h.symm⟩
        · exact .inr ⟨e, List.mem_cons_self, hb, .inr h⟩
      · rw [if_neg hb] at h; exact .inl h
    · exact .inr ⟨e', List.mem_cons_of_mem _ he', h⟩

def GoodTab (ops : Array Oper) (t : Tr Nat) : Prop :=
  ∀ i v, t.get i = some v → ∃ o, ops[i]? = some o ∧ ∀ S, ClosedS ops S → (∀ e ∈ o.after, Region.binds .any e = true → S e.on) → ∀ j, v.testBit j = true → S j

theorem befGo_good {ops : Array Oper} : ∀ (l : List Oper) (j : Nat) (t : Tr Nat), ops.toList.drop j = l → GoodTab ops t → GoodTab ops (befGo l j t)
  | [], j, t, _, h => h
  | o :: l, j, t, hd, h => by
    obtain ⟨ho, hd'⟩ := drop_cons hd
    have ho : ops[j]? = some o := by simpa using ho
    rw [befGo, CheckFast.force_eq]
    refine befGo_good l (j + 1) _ hd' fun i v hv => ?_
    rw [Tr.get_set] at hv
    by_cases e : i = j
    · rw [if_pos e] at hv
      subst e
      simp only [Option.some.injEq] at hv; subst hv
      refine ⟨o, ho, fun S hS hdir b hb => ?_⟩
      unfold CheckFast.one at hb
      rw [← Array.foldl_toList] at hb
      rcases one_bits (fun i => (t.get i).getD 0) _ _ _ hb with h0 | ⟨e, he, hbi, h0⟩
      · simp at h0
      · have he' : e ∈ o.after := Array.mem_toList_iff.1 he
        have hSe := hdir e he' hbi
        rcases h0 with rfl | h0
        · exact hSe
        · cases hg : t.get e.on with
          | none => rw [hg] at h0; simp at h0
          | some u =>
            rw [hg] at h0
            obtain ⟨o', ho', hh⟩ := h _ _ hg
            exact hh S hS (fun e' he' hb' => hS _ o' ho' hSe e' he' hb') b h0
    · rw [if_neg e] at hv; exact h i v hv

/-- what the table tells comes ahead is in each closed set that the operation may join -/
theorem bef_sound {ops : Array Oper} {S : Nat → Prop} (hS : ClosedS ops S) {i j : Nat} {o : Oper} (ho : ops[i]? = some o) (hdir : ∀ e ∈ o.after, Region.binds .any e = true → S e.on)
    (h : (((befTab ops).get i).getD 0).testBit j = true) : S j := by
  have hg : GoodTab ops (befTab ops) := befGo_good _ 0 _ rfl (fun i v hv => by rw [Tr.get_leaf] at hv; cases hv)
  cases hv : (befTab ops).get i with
  | none => rw [hv] at h; simp at h
  | some v =>
    rw [hv] at h
    obtain ⟨o', ho', hh⟩ := hg i v hv
    rw [ho] at ho'; cases ho'
    exact hh S hS hdir j h

def nextSt (sp : St) (m : Mark1) : St := { m.b with env := match m.o.dst with | none => sp.env | some d => sp.env.upd d (m.b.env.get d) }

/-- the one run of a region whose order is drawn -/
structure Canon (C : Cfg) (call : CallF) (ops : Array Oper) (base : Nat) (n : Nat) (m : Nat → Mark1) (s : Nat → St) : Prop where
  op : ∀ q < n, ops[(m q).i]? = some (m q).o
  inj : ∀ q q', q < n → q' < n → (m q).i = (m q').i → q = q'
  topo : ∀ q < n, ∀ e ∈ (m q).o.after, Region.binds .any e = true → ∃ q' < q, (m q').i = e.on
  calm : ∀ q < n, (wayOf C.P (m q).o).calm = true
  a : ∀ q < n, (m q).a = { s q with env := onlyEnv (s q).env ((m q).o.looksAt ops) }
  want : ∀ q < n, wantedA ops (m q).a.env (m q).o = some (m q).want
  step : ∀ q < n, stepA C call ops (m q).o (some (base + (m q).i)) (m q).a = some (.go (m q).b)
  next : ∀ q < n, s (q + 1) = nextSt (s q) (m q)

theorem Canon.push {C : Cfg} {call : CallF} {ops : Array Oper} {base n : Nat} {m : Nat → Mark1} {s : Nat → St} (h : Canon C call ops base n m s) (x : Mark1) (h1 : ops[x.i]? = some x.o) (h2 : ∀ q < n, (m q).i ≠ x.i)
    (h3 : ∀ e ∈ x.o.after, Region.binds .any e = true → ∃ q' < n, (m q').i = e.on) (h4 : (wayOf C.P x.o).calm = true) (h5 : x.a = { s n with env := onlyEnv (s n).env (x.o.looksAt ops) })
    (h6 : wantedA ops x.a.env x.o = some x.want) (h7 : stepA C call ops x.o (some (base + x.i)) x.a = some (.go x.b)) :
    Canon C call ops base (n + 1) (fun q => if q < n then m q else x) (fun q => if q < n + 1 then s q else nextSt (s n) x) := by
  have lt : ∀ q, q < n + 1 → q < n ∨ q = n := fun q hq => by omega
  have em : ∀ q, q < n → (if q < n then m q else x) = m q := fun q hq => if_pos hq
  have en : (if n < n then m n else x) = x := if_neg (by omega)
  refine ⟨fun q hq => ?_, fun q q' hq hq' he => ?_, fun q hq e he hb => ?_, fun q hq => ?_, fun q hq => ?_, fun q hq => ?_, fun q hq => ?_, fun q hq => ?_⟩
  · rcases lt q hq with h' | rfl
    · simp only [em q h']; exact h.op q h'
    · simp only [en]; exact h1
  · rcases lt q hq with h' | rfl <;> rcases lt q' hq' with h'' | rfl
    · simp only [em q h', em q' h''] at he; exact h.inj q q' h' h'' he
    · simp only [em q h', en] at he; exact absurd he (h2 q h')
    · simp only [em q' h'', en] at he; exact absurd he.symm (h2 q' h'')
    · rfl
  · rcases lt q hq with h' | rfl
    · simp only [em q h'] at he
      obtain ⟨q', hq', hh⟩ := h.topo q h' e he hb
      exact ⟨q', hq', by simp only [em q' (by omega)]; exact hh⟩
    · simp only [en] at he
      obtain ⟨q', hq', hh⟩ := h3 e he hb
      exact ⟨q', hq', by simp only [em q' hq']; exact hh⟩
  · rcases lt q hq with h' | rfl
    · simp only [em q h']; exact h.calm q h'
    · simp only [en]; exact h4
  · rcases lt q hq with h' | rfl
    · simp only [em q h', if_pos hq]; exact h.a q h'
    · simp only [en, if_pos hq]; exact h5
  · rcases lt q hq with h' | rfl
    · simp only [em q h']; exact h.want q h'
    · simp only [en]; exact h6
  · rcases lt q hq with h' | rfl
    · simp only [em q h']; exact h.step q h'
    · simp only [en]; exact h7
  · rcases lt q hq with h' | rfl
    · simp only [em q h', if_pos hq, if_pos (show q + 1 < n + 1 by omega)]; exact h.next q h'
    · simp only [en, if_pos hq, if_neg (show ¬ q + 1 < q + 1 by omega)]

theorem runDraw_canon {C : Cfg} {call : CallF} {ops : Array Oper} {base : Nat} : ∀ (is : List Nat) (st : St) (ms ms' : List Mark1) (st' : St), runDraw C call ops base is st ms = some (ms', st') →
    ∀ (m : Nat → Mark1) (s : Nat → St), Canon C call ops base ms.length m s → s ms.length = st → (∀ q < ms.length, ms.reverse[q]? = some (m q)) →
    ∃ m' s', Canon C call ops base ms'.length m' s' ∧ s' ms'.length = st' ∧ (∀ q < ms'.length, ms'.reverse[q]? = some (m' q)) ∧ s' 0 = s 0 ∧ (∀ j ∈ is, ∃ q < ms'.length, (m' q).i = j) ∧ (∀ j, (∃ q < ms.length, (m q).i = j) → ∃ q < ms'.length, (m' q).i = j)
  | [], st, ms, ms', st', h, m, s, hc, hs, hm => by
    simp only [runDraw, Option.some.injEq, Prod.mk.injEq] at h
    obtain ⟨rfl, rfl⟩ := h
    exact ⟨m, s, hc, hs, hm, rfl, by simp, fun _ h => h⟩
  | i :: is, st, ms, ms', st', h, m, s, hc, hs, hm => by
    rw [runDraw] at h
    cases ho : ops[i]? with
    | none => rw [ho] at h; simp at h
    | some o =>
      rw [ho] at h
      simp only at h
      have hcond := (cond_none h).1
      replace h := (cond_none h).2
      simp only [Bool.or_eq_false_iff, Bool.not_eq_false'] at hcond
      obtain ⟨⟨hc1, hc2⟩, hc3⟩ := hcond
      split at h <;> try contradiction
      rename_i want b hw hst
      have mem : ∀ q < ms.length, m q ∈ ms := fun q hq => by
        have := List.mem_of_getElem? (hm q hq)
        simpa using this
      have idx : ∀ x ∈ ms, ∃ q < ms.length, m q = x := fun x hx => by
        have : x ∈ ms.reverse := by simpa using hx
        obtain ⟨q, hq⟩ := List.getElem?_of_mem this
        have hlt : q < ms.length := by have := (List.getElem?_eq_some_iff.1 hq).1; simpa using this
        refine ⟨q, hlt, ?_⟩
        have := hm q hlt
        rw [hq] at this
        exact (Option.some.inj this).symm
      let x : Mark1 := ⟨i, o, want, { st with env := onlyEnv st.env (o.looksAt ops) }, b⟩
      have hpush := hc.push x ho (fun q hq he => by
          have := List.any_eq_false.1 hc1 _ (mem q hq)
          rw [nbeq] at this
          simp at this
          exact this he) (fun e he hb => by
          have := Array.all_eq_true_iff_forall_mem.1 hc2 e he
          rw [hb] at this
          simp only [Bool.not_true, Bool.false_or] at this
          obtain ⟨y, hy, hy2⟩ := List.any_eq_true.1 this
          rw [nbeq, decide_eq_true_iff] at hy2
          obtain ⟨q, hq, rfl⟩ := idx y hy
          exact ⟨q, hq, hy2⟩) hc3 (by rw [hs]) hw hst
      obtain ⟨m', s', g1, g2, g3, g4, g5, g6⟩ := runDraw_canon is _ (x :: ms) ms' st' h _ _ hpush (by
          simp only [List.length_cons, Nat.lt_irrefl, if_false, hs]; rfl) (fun q hq => by
          simp only [List.length_cons] at hq
          by_cases hlt : q < ms.length
          · simp only [if_pos hlt, List.reverse_cons]
            rw [List.getElem?_append_left (by simpa using hlt)]
            exact hm q hlt
          · have : q = ms.length := by omega
            subst this
            simp only [if_neg hlt, List.reverse_cons]
            rw [List.getElem?_append_right (by simp)]
            simp)
      refine ⟨m', s', g1, g2, g3, by rw [g4]; simp, fun j hj => ?_, fun j ⟨q, hq, he⟩ => g6 j ⟨q, by simp only [List.length_cons]; omega, by simp only [if_pos hq]; exact he⟩⟩
      rcases List.mem_cons.1 hj with rfl | hj
      · exact g6 j ⟨ms.length, by simp, by simp only [Nat.lt_irrefl, if_false]; rfl⟩
      · exact g5 j hj

theorem drawOk_pairs {C : Cfg} {ops : Array Oper} {tab : Tr Nat} {base : Nat} : ∀ {ms : List Mark1}, drawOk C ops tab base ms = true → ms.Pairwise fun y x => pairOk C ops tab base x y = true
  | [], _ => List.Pairwise.nil
  | m :: ms, h => by
    simp only [drawOk, Bool.and_eq_true] at h
    exact List.Pairwise.cons (fun x hx => List.all_eq_true.1 h.1.2 x hx) (drawOk_pairs h.2)

theorem canon_pairs {C : Cfg} {ops : Array Oper} {tab : Tr Nat} {base : Nat} {ms : List Mark1} {m : Nat → Mark1} (h : drawOk C ops tab base ms = true) (hm : ∀ q < ms.length, ms.reverse[q]? = some (m q)) :
    ∀ q q', q < q' → q' < ms.length → pairOk C ops tab base (m q) (m q') = true := by
  have hp : ms.reverse.Pairwise fun x y => pairOk C ops tab base x y = true := List.pairwise_reverse.2 (drawOk_pairs h)
  intro q q' hlt hq'
  have h1 := hm q (by omega)
  have h2 := hm q' hq'
  obtain ⟨l1, e1⟩ := List.getElem?_eq_some_iff.1 h1
  obtain ⟨l2, e2⟩ := List.getElem?_eq_some_iff.1 h2
  have := List.pairwise_iff_getElem.1 hp q q' l1 l2 hlt
  rw [e1, e2] at this
  exact this

theorem drawOk_own {C : Cfg} {ops : Array Oper} {tab : Tr Nat} {base : Nat} : ∀ {ms : List Mark1}, drawOk C ops tab base ms = true → ∀ m ∈ ms, kindOf C.P m.o = 3 → m.a.H.get (base + m.i) = none
  | [], _ => by simp
  | m :: ms, h => by
    simp only [drawOk, Bool.and_eq_true, Bool.or_eq_true, Bool.not_eq_true'] at h
    intro x hx h3
    rcases List.mem_cons.1 hx with rfl | hx
    · rcases h.1.1 with h2 | h2
      · rw [h3] at h2; simp at h2
      · cases hh : x.a.H.get (base + x.i) with
        | none => rfl
        | some b => rw [hh] at h2; simp at h2
    · exact drawOk_own h.2 x hx h3
end Go.AX
end
section
open Go (execOp)
/- AX: a region whose order is drawn: what each operation of its one run did. -/
namespace Go.AX

def putE (env : Env) (dst : Option Tmp) (v : AV) : Env :=
  match dst with
  | none => env
  | some d => env.set d v

/-- what an operation did -/
def Did (C : Cfg) (call : CallF) (o : Oper) (id : Nat) (want : Bool) (env : Env) (H : AHeap) (v : AV) (H' : AHeap) : Prop :=
  match want with
  | false => v = .undef ∧ H' = H
  | true => match wayOf C.P o with
    | .pure => evalPure C (evalO C env) o = some v ∧ H' = H
    | .read => evalRead C H (evalO C env) o = some v ∧ H' = H
    | .fresh => ∃ blk, evalFresh C (evalO C env) o id = some (v, blk) ∧ H' = H.putAt id blk
    | .chg => evalChg C H (evalO C env) o = some (v, H')
    | .call c => ∃ f args cap, calledA C (evalO C env) c = some (f, args, cap) ∧
        ((hasBody C.P f = true ∧ call f (args ++ cap) H = some (.ret v, H')) ∨ (hasBody C.P f = false ∧ C.ext f (args ++ cap) H = some (v, H')))
    | _ => False

theorem putA_put {st b : St} {dst : Option Tmp} {v : AV} (h : putA st dst v = some b) : b = { st with env := putE st.env dst v } ∧ (∀ d, dst = some d → d < st.size) := by
  unfold putA at h
  cases dst with
  | none => simp only [Option.some.injEq] at h; subst h; exact ⟨rfl, by simp⟩
  | some d =>
    simp only at h
    obtain ⟨hd, h⟩ := cond_some h
    rw [blt_dec, decide_eq_true_iff] at hd
    simp only [Option.some.injEq] at h; subst h
    exact ⟨rfl, fun d' e => by cases e; exact hd⟩

theorem did_of {C : Cfg} {call : CallF} {ops : Array Oper} {o : Oper} {id : Nat} {a b : St} {want : Bool} (hc : (wayOf C.P o).calm = true) (hw : wantedA ops a.env o = some want)
    (h : stepA C call ops o (some id) a = some (.go b)) :
    ∃ v, Did C call o id want a.env a.H v b.H ∧ b = { a with env := putE a.env o.dst v, H := b.H } ∧ (∀ d, o.dst = some d → d < a.size) := by
  unfold stepA at h
  rw [hw] at h
  cases want with
  | false =>
    simp only at h
    obtain ⟨b', hp, e⟩ := map_some h
    simp only [SRes.go.injEq] at e; subst e
    obtain ⟨h1, h2⟩ := putA_put hp
    exact ⟨.undef, ⟨rfl, by rw [h1]⟩, by rw [h1], h2⟩
  | true =>
    simp only at h
    unfold runOp at h
    simp only at h
    unfold Did
    simp only
    cases hway : wayOf C.P o with
    | recover => rw [hway] at hc; simp [Way.calm] at hc
    | defer c => rw [hway] at hc; simp [Way.calm] at hc
    | panic x => rw [hway] at hc; simp [Way.calm] at hc
    | pure =>
      rw [hway] at h
      obtain ⟨v, h1, h⟩ := bind_some h
      obtain ⟨b', hp, e⟩ := map_some h
      simp only [SRes.go.injEq] at e; subst e
      obtain ⟨h3, h4⟩ := putA_put hp
      exact ⟨v, ⟨h1, by rw [h3]⟩, by rw [h3], h4⟩
    | read =>
      rw [hway] at h
      obtain ⟨v, h1, h⟩ := bind_some h
      obtain ⟨b', hp, e⟩ := map_some h
      simp only [SRes.go.injEq] at e; subst e
      obtain ⟨h3, h4⟩ := putA_put hp
      exact ⟨v, ⟨h1, by rw [h3]⟩, by rw [h3], h4⟩
    | chg =>
      rw [hway] at h
      obtain ⟨⟨v, H'⟩, h1, h⟩ := bind_some h
      obtain ⟨b', hp, e⟩ := map_some h
      simp only [SRes.go.injEq] at e; subst e
      obtain ⟨h3, h4⟩ := putA_put hp
      exact ⟨v, by rw [h3]; exact h1, by rw [h3], h4⟩
    | fresh =>
      rw [hway] at h
      obtain ⟨⟨v, blk⟩, h1, h⟩ := bind_some h
      obtain ⟨b', hp, e⟩ := map_some h
      simp only [SRes.go.injEq] at e; subst e
      obtain ⟨h3, h4⟩ := putA_put hp
      exact ⟨v, ⟨blk, h1, by rw [h3]⟩, by rw [h3], h4⟩
    | call c =>
      rw [hway] at h
      obtain ⟨⟨f, args, cap⟩, h1, h⟩ := bind_some h
      simp only at h
      cases hb : hasBody C.P f with
      | true =>
        rw [hb] at h
        simp only [cond_true] at h
        obtain ⟨⟨end', H'⟩, h2, h⟩ := bind_some h
        cases end' with
        | pan v => simp only [Option.some.injEq] at h; cases h
        | ret v =>
          obtain ⟨b', hp, e⟩ := map_some h
          simp only [SRes.go.injEq] at e; subst e
          obtain ⟨h3, h4⟩ := putA_put hp
          exact ⟨v, ⟨f, args, cap, h1, .inl ⟨hb, by rw [h3]; exact h2⟩⟩, by rw [h3], h4⟩
      | false =>
        rw [hb] at h
        simp only [cond_false] at h
        obtain ⟨⟨v, H'⟩, h2, h⟩ := bind_some h
        obtain ⟨b', hp, e⟩ := map_some h
        simp only [SRes.go.injEq] at e; subst e
        obtain ⟨h3, h4⟩ := putA_put hp
        exact ⟨v, ⟨f, args, cap, h1, .inr ⟨hb, by rw [h3]; exact h2⟩⟩, by rw [h3], h4⟩

theorem get_putE {env : Env} {dst : Option Tmp} {v : AV} (t : Tmp) : (putE env dst v).get t = if dst = some t then some v else env.get t := by
  cases dst with
  | none => simp [putE]
  | some d =>
    simp only [putE, Tr.get_set, Option.some.injEq]
    by_cases e : t = d
    · subst e; simp
    · rw [if_neg e, if_neg (fun h => e h.symm)]

theorem get_onlyEnv {env : Env} : ∀ {ts : List Tmp} {t : Tmp} {v : AV}, (onlyEnv env ts).get t = some v → t ∈ ts ∧ env.get t = some v
  | [], t, v, h => by rw [onlyEnv, Tr.get_leaf] at h; cases h
  | u :: ts, t, v, h => by
    rw [onlyEnv] at h
    cases hu : env.get u with
    | none =>
      rw [hu] at h
      obtain ⟨h1, h2⟩ := get_onlyEnv h
      exact ⟨List.mem_cons_of_mem _ h1, h2⟩
    | some w =>
      rw [hu] at h
      simp only [Tr.get_set] at h
      by_cases e : t = u
      · subst e
        rw [if_pos rfl] at h
        exact ⟨List.mem_cons_self, by rw [hu]; exact h⟩
      · rw [if_neg e] at h
        obtain ⟨h1, h2⟩ := get_onlyEnv h
        exact ⟨List.mem_cons_of_mem _ h1, h2⟩

/-- The one run, operation by operation: the values, the heaps. -/
structure Run (C : Cfg) (call : CallF) (ops : Array Oper) (base n : Nat) (st0 : St) (i : Nat → Nat) (o : Nat → Oper) (want : Nat → Bool) (E : Nat → Env) (v : Nat → AV) (Hs : Nat → AHeap) : Prop where
  op : ∀ q < n, ops[i q]? = some (o q)
  inj : ∀ q q', q < n → q' < n → i q = i q' → q = q'
  topo : ∀ q < n, ∀ e ∈ (o q).after, Region.binds .any e = true → ∃ q' < q, i q' = e.on
  calm : ∀ q < n, (wayOf C.P (o q)).calm = true
  wan : ∀ q < n, wantedA ops (onlyEnv (E q) ((o q).looksAt ops)) (o q) = some (want q)
  did : ∀ q < n, Did C call (o q) (base + i q) (want q) (onlyEnv (E q) ((o q).looksAt ops)) (Hs q) (v q) (Hs (q + 1))
  E0 : E 0 = st0.env
  En : ∀ q < n, ∀ t, (E (q + 1)).get t = if (o q).dst = some t then some (v q) else (E q).get t
  H0 : Hs 0 = st0.H
  dst : ∀ q < n, ∀ d, (o q).dst = some d → d < st0.size

theorem Canon.run {C : Cfg} {call : CallF} {ops : Array Oper} {base n : Nat} {m : Nat → Mark1} {s : Nat → St} (h : Canon C call ops base n m s) :
    ∃ v, Run C call ops base n (s 0) (fun q => (m q).i) (fun q => (m q).o) (fun q => (m q).want) (fun q => (s q).env) v (fun q => (s q).H) ∧
      (∀ q < n, (m q).a.env = onlyEnv (s q).env ((m q).o.looksAt ops) ∧ (m q).a.H = (s q).H ∧ (m q).b.H = (s (q + 1)).H) ∧ (∀ q ≤ n, (s q).size = (s 0).size ∧ (s q).dfr = (s 0).dfr ∧ (s q).rc = (s 0).rc) := by
  have hd : ∀ q < n, ∃ v, Did C call (m q).o (base + (m q).i) (m q).want (m q).a.env (m q).a.H v (m q).b.H ∧ (m q).b = { (m q).a with env := putE (m q).a.env (m q).o.dst v, H := (m q).b.H } ∧ (∀ d, (m q).o.dst = some d → d < (m q).a.size) :=
    fun q hq => did_of (h.calm q hq) (h.want q hq) (h.step q hq)
  let v : Nat → AV := fun q => if hq : q < n then (hd q hq).choose else .undef
  have hv : ∀ q < n, Did C call (m q).o (base + (m q).i) (m q).want (m q).a.env (m q).a.H (v q) (m q).b.H ∧ (m q).b = { (m q).a with env := putE (m q).a.env (m q).o.dst (v q), H := (m q).b.H } ∧ (∀ d, (m q).o.dst = some d → d < (m q).a.size) := by
    intro q hq
    have : v q = (hd q hq).choose := by simp only [v, dif_pos hq]
    rw [this]
    exact (hd q hq).choose_spec
  have hae : ∀ q < n, (m q).a.env = onlyEnv (s q).env ((m q).o.looksAt ops) ∧ (m q).a.H = (s q).H ∧ (m q).a.size = (s q).size ∧ (m q).a.dfr = (s q).dfr ∧ (m q).a.rc = (s q).rc := fun q hq => by rw [h.a q hq]; exact ⟨rfl, rfl, rfl, rfl, rfl⟩
  have hb : ∀ q < n, (m q).b.H = (s (q + 1)).H := fun q hq => by rw [h.next q hq]; rfl
  have hconst : ∀ q ≤ n, (s q).size = (s 0).size ∧ (s q).dfr = (s 0).dfr ∧ (s q).rc = (s 0).rc := by
    intro q
    induction q with
    | zero => intro _; exact ⟨rfl, rfl, rfl⟩
    | succ q ih =>
      intro hq
      obtain ⟨i1, i2, i3⟩ := ih (by omega)
      obtain ⟨_, _, a1, a2, a3⟩ := hae q (by omega)
      have e := h.next q (by omega)
      have eb := (hv q (by omega)).2.1
      rw [e]
      refine ⟨?_, ?_, ?_⟩
      · show (m q).b.size = _; rw [eb]; show (m q).a.size = _; rw [a1, i1]
      · show (m q).b.dfr = _; rw [eb]; show (m q).a.dfr = _; rw [a2, i2]
      · show (m q).b.rc = _; rw [eb]; show (m q).a.rc = _; rw [a3, i3]
  refine ⟨v, ⟨h.op, h.inj, h.topo, h.calm, fun q hq => ?_, fun q hq => ?_, rfl, fun q hq t => ?_, rfl, fun q hq d hdd => ?_⟩, fun q hq => ⟨(hae q hq).1, (hae q hq).2.1, hb q hq⟩, hconst⟩
  · have := h.want q hq
    rw [(hae q hq).1] at this
    exact this
  · have := (hv q hq).1
    rw [(hae q hq).1, (hae q hq).2.1, hb q hq] at this
    exact this
  · have e := h.next q hq
    have eb := (hv q hq).2.1
    show (s (q + 1)).env.get t = _
    rw [e]
    show (match (m q).o.dst with | none => (s q).env | some d => (s q).env.upd d ((m q).b.env.get d)).get t = _
    cases hdst : (m q).o.dst with
    | none => simp
    | some d =>
      simp only [Tr.get_upd, Option.some.injEq]
      by_cases e : t = d
      · subst e
        rw [if_pos rfl, if_pos rfl, eb]
        show (putE (m q).a.env (m q).o.dst (v q)).get t = _
        rw [get_putE, hdst, if_pos rfl]
      · rw [if_neg e, if_neg (fun h => e h.symm)]
  · have := (hv q hq).2.2 d hdd
    rw [(hae q hq).2.2.1, (hconst q (by omega)).1] at this
    exact this
end Go.AX
end
section
open Go (execOp)
/- AX: a region whose order is drawn: two operations that may come in either order. -/
namespace Go.AX

/-- 0: looks at nothing but its operands; 1: reads; 3: makes a block of its own; 2: the rest -/
def Way.cls : Way → Nat
  | .pure => 0
  | .read => 1
  | .fresh => 3
  | _ => 2

theorem cls_kind (P : Program) (o : Oper) : (wayOf P o).cls = match kindOf P o with | 0 => 0 | 1 => 1 | 3 => 3 | _ => 2 := by
  unfold wayOf
  split
  · rename_i h; rw [h]; rfl
  · rename_i h; rw [h]; rfl
  · rename_i h; rw [h]; rfl
  · rename_i h0 h1 h3
    have : (match kindOf P o with | 0 => 0 | 1 => 1 | 3 => 3 | _ => 2) = 2 := by
      split <;> first | rfl | (rename_i h; first | exact absurd h h0 | exact absurd h h1 | exact absurd h h3)
    rw [this]
    split
    · split <;> rfl
    · rfl
    · rfl
    · rfl

def clsOf (P : Program) (want : Bool) (o : Oper) : Nat := bif want then (wayOf P o).cls else 0

theorem clsOf_kind1 (P : Program) (m : Mark1) : clsOf P m.want m.o = match kind1 P m with | 0 => 0 | 1 => 1 | 3 => 3 | _ => 2 := by
  unfold clsOf kind1
  cases m.want with
  | false => rfl
  | true => simp only [cond_true]; exact cls_kind P m.o

theorem optBeq_eq {a : Option AV} {b : AV} (h : optBeq a b = true) : a = some b := by
  cases a with
  | none => simp [optBeq] at h
  | some a => simp only [optBeq] at h; rw [AV.beq_eq _ _ h]

theorem keepsRead_eq {C : Cfg} {r c : Mark1} {v : AV} (h : keepsRead C r c = true) (hv : evalRead C r.a.H (evalO C r.a.env) r.o = some v) :
    evalRead C c.a.H (evalO C r.a.env) r.o = some v ∧ evalRead C c.b.H (evalO C r.a.env) r.o = some v := by
  unfold keepsRead at h
  rw [hv] at h
  simp only [Bool.and_eq_true] at h
  exact ⟨optBeq_eq h.1, optBeq_eq h.2⟩

/-- the two may come in either order -/
structure SwapP (C : Cfg) (ops : Array Oper) (x y : Mark1) : Prop where
  apart : x.o.apart ops y.o = true
  two : clsOf C.P x.want x.o = 2 → clsOf C.P y.want y.o = 2 → False
  fresh : clsOf C.P x.want x.o = 3 → clsOf C.P y.want y.o = 1 ∨ clsOf C.P y.want y.o = 2 → False
  rc : clsOf C.P x.want x.o = 1 → clsOf C.P y.want y.o = 2 → keepsRead C x y = true
  cr : clsOf C.P x.want x.o = 2 → clsOf C.P y.want y.o = 1 → keepsRead C y x = true

theorem swap_spec {C : Cfg} {ops : Array Oper} {x y : Mark1} (h : swapOk C ops x y = true) : SwapP C ops x y := by
  unfold swapOk at h
  simp only [Bool.and_eq_true] at h
  obtain ⟨h1, h2⟩ := h
  have ex := clsOf_kind1 C.P x
  have ey := clsOf_kind1 C.P y
  refine ⟨h1, fun c d => ?_, fun c d => ?_, fun c d => ?_, fun c d => ?_⟩
  all_goals
    rw [ex] at c
    rw [ey] at d
    generalize kind1 C.P x = a at *
    generalize kind1 C.P y = b at *
    clear ex ey
    match a, b with
    | 0, _ => simp at c
    | 1, 0 => simp_all
    | 1, 1 => simp_all
    | 1, 2 => simp_all
    | 1, 3 => simp_all
    | 1, _ + 4 => simp_all
    | 2, 0 => simp_all
    | 2, 1 => simp_all
    | 2, 2 => simp_all
    | 2, 3 => simp_all
    | 2, _ + 4 => simp_all
    | 3, 0 => simp_all
    | 3, 1 => simp_all
    | 3, 2 => simp_all
    | 3, 3 => simp_all
    | 3, _ + 4 => simp_all
    | _ + 4, 0 => simp_all
    | _ + 4, 1 => simp_all
    | _ + 4, 2 => simp_all
    | _ + 4, 3 => simp_all
    | _ + 4, _ + 4 => simp_all

theorem kind_of_cls {P : Program} {want : Bool} {o : Oper} (h : clsOf P want o = 3) : kindOf P o = 3 := by
  unfold clsOf at h
  cases want with
  | false => simp at h
  | true =>
    rw [cond_true, cls_kind] at h
    split at h <;> first | assumption | (simp at h)

theorem pair_spec {C : Cfg} {ops : Array Oper} {tab : Tr Nat} {base : Nat} {x y : Mark1} (h : pairOk C ops tab base x y = true) :
    (∀ d, x.o.dst = some d → y.o.dst ≠ some d) ∧ (clsOf C.P y.want y.o = 3 → x.a.H.get (base + y.i) = none) ∧ (((tab.get y.i).getD 0).testBit x.i = true ∨ SwapP C ops x y) := by
  unfold pairOk at h
  simp only [Bool.and_eq_true, Bool.not_eq_true', Bool.or_eq_true] at h
  obtain ⟨⟨h1, h2⟩, h3⟩ := h
  refine ⟨fun d hd hd' => ?_, ?_, h3.imp id swap_spec⟩
  · unfold sameDst at h1
    rw [hd, hd'] at h1
    simp [nbeq] at h1
  · intro h3
    rcases h2 with h2 | h2
    · rw [kind_of_cls h3] at h2; simp at h2
    · cases hh : x.a.H.get (base + y.i) with
      | none => rfl
      | some b => rw [hh] at h2; simp at h2
end Go.AX
end
section
open Go (execOp)
/- AX: a region whose order is drawn. -/
namespace Go.AX

section
variable {C : Cfg} {B n₀ : Nat} {call : CallF} {ops : Array Oper} {base n : Nat} {m : Nat → Mark1} {s : Nat → St} {v : Nat → AV}

/-- all that the one run says -/
structure Told (C : Cfg) (call : CallF) (ops : Array Oper) (base n : Nat) (m : Nat → Mark1) (s : Nat → St) (v : Nat → AV) : Prop where
  run : Run C call ops base n (s 0) (fun q => (m q).i) (fun q => (m q).o) (fun q => (m q).want) (fun q => (s q).env) v (fun q => (s q).H)
  mark : ∀ q < n, (m q).a.env = onlyEnv (s q).env ((m q).o.looksAt ops) ∧ (m q).a.H = (s q).H ∧ (m q).b.H = (s (q + 1)).H
  const : ∀ q ≤ n, (s q).size = (s 0).size ∧ (s q).dfr = (s 0).dfr ∧ (s q).rc = (s 0).rc
  pair : ∀ q q', q < q' → q' < n → (∀ d, (m q).o.dst = some d → (m q').o.dst ≠ some d) ∧ (clsOf C.P (m q').want (m q').o = 3 → (s q).H.get (base + (m q').i) = none) ∧ ((((befTab ops).get (m q').i).getD 0).testBit (m q).i = true ∨ SwapP C ops (m q) (m q'))
  own : ∀ q < n, kindOf C.P (m q).o = 3 → (s q).H.get (base + (m q).i) = none
  all : ∀ j < ops.size, ∃ q < n, (m q).i = j
  nos : Region.noSelect ops = true

def cls (C : Cfg) (m : Nat → Mark1) (q : Nat) : Nat := clsOf C.P (m q).want (m q).o

theorem Told.grow (T : Told C call ops base n m s v) : ∀ {q1 q2 : Nat}, q1 ≤ q2 → q2 ≤ n → (∀ q, q1 ≤ q → q < q2 → cls C m q ≠ 2) →
    (s q2).H.next = (s q1).H.next ∧ (∀ id b, (s q1).H.get id = some b → (s q2).H.get id = some b) ∧
    (∀ id b, (s q2).H.get id = some b → (s q1).H.get id = some b ∨ ∃ q, q1 ≤ q ∧ q < q2 ∧ cls C m q = 3 ∧ id = base + (m q).i ∧ (s (q + 1)).H.get id = some b) := by
  intro q1 q2 hle
  induction hle with
  | refl => intro _ _; exact ⟨rfl, fun _ _ h => h, fun _ _ h => .inl h⟩
  | @step q2 hle ih =>
    intro hn hno
    obtain ⟨h1, h2, h3⟩ := ih (by omega) (fun q a b => hno q a (by omega))
    have hd := T.run.did q2 (by omega)
    have hno2 := hno q2 hle (by omega)
    have same : (s (q2 + 1)).H = (s q2).H → (s (q2 + 1)).H.next = (s q1).H.next ∧ (∀ id b, (s q1).H.get id = some b → (s (q2 + 1)).H.get id = some b) ∧
        (∀ id b, (s (q2 + 1)).H.get id = some b → (s q1).H.get id = some b ∨ ∃ q, q1 ≤ q ∧ q < q2 + 1 ∧ cls C m q = 3 ∧ id = base + (m q).i ∧ (s (q + 1)).H.get id = some b) := by
      intro e
      rw [e]
      refine ⟨h1, h2, fun id b hb => ?_⟩
      rcases h3 id b hb with h | ⟨q, a1, a2, a3⟩
      · exact .inl h
      · exact .inr ⟨q, a1, by omega, a3⟩
    unfold Did at hd
    unfold cls clsOf at hno2
    cases hw : (m q2).want with
    | false => simp only [hw] at hd; exact same hd.2
    | true =>
      simp only [hw, cond_true] at hd hno2
      cases hway : wayOf C.P (m q2).o <;> rw [hway] at hd hno2 <;> simp only [Way.cls, ne_eq, not_true_eq_false] at hd hno2
      case pure => exact same hd.2
      case read => exact same hd.2
      case fresh =>
        obtain ⟨blk, _, e⟩ := hd
        have hown := T.own q2 (by omega) (kind_of_cls (want := true) (by unfold clsOf; rw [cond_true, hway]; rfl))
        have hget : ∀ id, (s (q2 + 1)).H.get id = if id = base + (m q2).i then some blk else (s q2).H.get id := fun id => by rw [e]; exact AHeap.get_putAt _ _ _ _
        refine ⟨by rw [e]; exact (AHeap.next_putAt _ _ _).trans h1, fun id b hb => ?_, fun id b hb => ?_⟩
        · rw [hget, if_neg (fun e' => by rw [e'] at hb; rw [h2 _ _ hb] at hown; cases hown)]
          exact h2 id b hb
        · have hb' := hb
          rw [hget] at hb'
          by_cases e' : id = base + (m q2).i
          · exact .inr ⟨q2, hle, by omega, by unfold cls clsOf; rw [hw, cond_true, hway]; rfl, e', hb⟩
          · rw [if_neg e'] at hb'
            rcases h3 id b hb' with h | ⟨q, a1, a2, a3⟩
            · exact .inl h
            · exact .inr ⟨q, a1, by omega, a3⟩

/-- where the run of some of the operations, in whatever order, has come to -/
structure Inv (C : Cfg) (B n₀ : Nat) (ops : Array Oper) (base n : Nat) (m : Nat → Mark1) (s : Nat → St) (v : Nat → AV) (H0 : AHeap) (G0 : Ghost) (w0 : World) (S : Nat → Prop) (G : Ghost) (a : Act) (w : World) (qS : Nat) (K : AHeap) : Prop where
  closed : ClosedS ops S
  sim : Sim B G K w
  glob : GlobOk C G w
  dfr : DfrRep n₀ G w C.P K (s 0).dfr a.defers
  size : a.tmps.size = (s 0).size
  envA : ∀ q < n, S (m q).i → ∀ d, (m q).o.dst = some d → ∃ x, a.tmps[d]? = some x ∧ Rep G w (v q) x
  envB : ∀ t u, (s 0).env.get t = some u → (∀ q < n, S (m q).i → (m q).o.dst ≠ some t) → ∃ x, a.tmps[t]? = some x ∧ Rep G w u x
  ext : Ext0 B H0 G0 w0 K G w
  knext : K.next = (s qS).H.next
  room : base + ops.size ≤ K.next
  beta : ∀ q < n, ¬ S (m q).i → G.β (base + (m q).i) = none
  low : ∀ j < base, G0.β j = none → G.β j = none
  qs : qS ≤ n
  chain : ∀ q < n, cls C m q = 2 → (S (m q).i ↔ q < qS)
  top : qS = 0 ∨ ∃ q, qS = q + 1 ∧ q < n ∧ cls C m q = 2
  a0 : ∀ id b, (s qS).H.get id = some b → K.get id = some b
  b : ∀ q < n, cls C m q = 3 → S (m q).i → qS ≤ q → ∀ blk, (s (q + 1)).H.get (base + (m q).i) = some blk → K.get (base + (m q).i) = some blk
  c : ∀ id b, K.get id = some b → (s qS).H.get id = some b ∨ ∃ q < n, cls C m q = 3 ∧ S (m q).i ∧ qS ≤ q ∧ id = base + (m q).i

variable {H0 : AHeap} {G0 : Ghost} {w0 : World} {S : Nat → Prop} {G : Ghost} {a : Act} {w : World} {qS : Nat} {K : AHeap}

/-- an operation that may come next: those ahead of it have run; those that have run and stood behind it may be swapped with it; and so may those that have not and stood ahead -/
theorem Inv.behind (T : Told C call ops base n m s v) (I : Inv C B n₀ ops base n m s v H0 G0 w0 S G a w qS K) {q q' : Nat} (hq : q < n) (hq' : q' < n) (hlt : q < q') (hno : ¬ S (m q).i) (hyes : S (m q').i) : SwapP C ops (m q) (m q') := by
  rcases (T.pair q q' hlt hq').2.2 with h | h
  · exact absurd (bef_sound I.closed (T.run.op q' hq') (I.closed _ _ (T.run.op q' hq') hyes) h) hno
  · exact h

theorem Inv.ahead (T : Told C call ops base n m s v) (I : Inv C B n₀ ops base n m s v H0 G0 w0 S G a w qS K) {q q' : Nat} (hq' : q' < n) (hlt : q < q') (hno : ¬ S (m q).i)
    (hready : ∀ e ∈ (m q').o.after, Region.binds .any e = true → S e.on) : SwapP C ops (m q) (m q') := by
  rcases (T.pair q q' hlt hq').2.2 with h | h
  · exact absurd (bef_sound I.closed (T.run.op q' hq') hready h) hno
  · exact h

/-- the canonical heap at q lies in the heap at hand -/
theorem Inv.part (T : Told C call ops base n m s v) (I : Inv C B n₀ ops base n m s v H0 G0 w0 S G a w qS K) {q : Nat} (hq : q ≤ n) (hge : qS ≤ q) (hno : ∀ p, qS ≤ p → p < q → cls C m p ≠ 2) (hfr : ∀ p, qS ≤ p → p < q → cls C m p = 3 → S (m p).i) :
    (∀ id b, (s q).H.get id = some b → K.get id = some b) ∧ K.next = (s q).H.next := by
  obtain ⟨h1, h2, h3⟩ := T.grow hge hq hno
  refine ⟨fun id b hb => ?_, I.knext.trans h1.symm⟩
  rcases h3 id b hb with h | ⟨p, a1, a2, a3, rfl, a5⟩
  · exact I.a0 id b h
  · exact I.b p (by omega) a3 (hfr p a1 a2 a3) a1 b a5

theorem Inv.subsim (T : Told C call ops base n m s v) (I : Inv C B n₀ ops base n m s v H0 G0 w0 S G a w qS K) {q : Nat} (hq : q ≤ n) (hge : qS ≤ q) (hno : ∀ p, qS ≤ p → p < q → cls C m p ≠ 2) (hfr : ∀ p, qS ≤ p → p < q → cls C m p = 3 → S (m p).i) :
    Sim B G (s q).H w := by
  obtain ⟨h1, h2⟩ := I.part T hq hge hno hfr
  exact I.sim.sub h1 (Nat.le_of_eq h2)

/-- the operands' values -/
theorem Inv.env (T : Told C call ops base n m s v) (I : Inv C B n₀ ops base n m s v H0 G0 w0 S G a w qS K) {q : Nat} (hq : q < n) (hno : ¬ S (m q).i) (hready : ∀ e ∈ (m q).o.after, Region.binds .any e = true → S e.on) :
    EnvRep G w (onlyEnv (s q).env ((m q).o.looksAt ops)) (s 0).size a.tmps := by
  refine ⟨I.size, fun t u ht => ?_⟩
  obtain ⟨hl, hu⟩ := get_onlyEnv ht
  -- where the value comes from, in the one run
  have prov : ∀ p, p ≤ n → ∀ u, (s p).env.get t = some u → (∃ p' < p, (m p').o.dst = some t ∧ u = v p') ∨ ((s 0).env.get t = some u ∧ ∀ p' < p, (m p').o.dst ≠ some t) := by
    intro p
    induction p with
    | zero => intro _ u hu; exact .inr ⟨hu, fun p' h => by omega⟩
    | succ p ih =>
      intro hp u hu
      have := T.run.En p (by omega) t
      rw [this] at hu
      by_cases e : (m p).o.dst = some t
      · rw [if_pos e] at hu
        simp only [Option.some.injEq] at hu
        exact .inl ⟨p, by omega, e, hu.symm⟩
      · rw [if_neg e] at hu
        rcases ih (by omega) u hu with ⟨p', h1, h2⟩ | ⟨h1, h2⟩
        · exact .inl ⟨p', by omega, h2⟩
        · refine .inr ⟨h1, fun p' h => ?_⟩
          by_cases e' : p' = p
          · rw [e']; exact e
          · exact h2 p' (by omega)
  rcases prov q (by omega) u hu with ⟨p, hp, hdst, rfl⟩ | ⟨h0, hnone⟩
  · -- an operation ahead of it, that it looks at: it has run
    have hS : S (m p).i := by
      by_cases c : S (m p).i
      · exact c
      · have := (I.ahead T hq hp c hready).apart
        exact absurd hl ((Oper.apart_spec this).1 t hdst)
    exact I.envA p (by omega) hS t hdst
  · refine I.envB t u h0 fun p hp hS hdst => ?_
    by_cases c : p < q
    · exact hnone p c hdst
    · have hne : p ≠ q := fun e => hno (e ▸ hS)
      have := (I.behind T hq hp (by omega) hno hS).apart
      exact (Oper.apart_spec this).2.2 t hdst hl
end
end Go.AX
end
section
open Go (execOp)
/- AX: a step that knows a part of the heap, in a heap that holds more. -/
namespace Go.AX

section
variable {B : Nat} {G G' : Ghost} {A A' K : AHeap} {w w' : World}

theorem mix_heaps (A A' K : AHeap) (f : Nat → Nat) : ∀ n, ∃ K' : AHeap, K'.next = A'.next ∧ ∀ id, ((∃ p < n, id = f p ∧ A.get id = none ∧ K.get id ≠ none) → K'.get id = K.get id) ∧ ((¬ ∃ p < n, id = f p ∧ A.get id = none ∧ K.get id ≠ none) → K'.get id = A'.get id)
  | 0 => ⟨A', rfl, fun id => ⟨fun ⟨p, hp, _⟩ => by omega, fun _ => rfl⟩⟩
  | n + 1 => by
    obtain ⟨K1, h1, h2⟩ := mix_heaps A A' K f n
    by_cases c : A.get (f n) = none ∧ K.get (f n) ≠ none
    · obtain ⟨b, hb⟩ : ∃ b, K.get (f n) = some b := by
        cases hh : K.get (f n) with
        | none => exact absurd hh c.2
        | some b => exact ⟨b, rfl⟩
      refine ⟨K1.set (f n) b, (AHeap.next_set _ _ _).trans h1, fun id => ⟨fun ⟨p, hp, he, hA, hK⟩ => ?_, fun hno => ?_⟩⟩
      · rw [AHeap.get_set]
        by_cases e : id = f n
        · rw [if_pos e, e, hb]
        · rw [if_neg e]
          refine (h2 id).1 ⟨p, ?_, he, hA, hK⟩
          rcases Nat.lt_or_ge p n with h | h
          · exact h
          · have : p = n := by omega
            subst this; exact absurd he e
      · rw [AHeap.get_set]
        by_cases e : id = f n
        · exact absurd ⟨n, by omega, e, e ▸ c.1, e ▸ c.2⟩ hno
        · rw [if_neg e]
          exact (h2 id).2 fun ⟨p, hp, hh⟩ => hno ⟨p, by omega, hh⟩
    · refine ⟨K1, h1, fun id => ⟨fun ⟨p, hp, he, hA, hK⟩ => ?_, fun hno => ?_⟩⟩
      · refine (h2 id).1 ⟨p, ?_, he, hA, hK⟩
        rcases Nat.lt_or_ge p n with h | h
        · exact h
        · have : p = n := by omega
          subst this; exact absurd ⟨he ▸ hA, he ▸ hK⟩ c
      · exact (h2 id).2 fun ⟨p, hp, hh⟩ => hno ⟨p, by omega, hh⟩

/-- a step over A, in K that holds more: what is beyond A stays -/
theorem Sim.frame (hK : Sim B G K w) (hsub : ∀ id b, A.get id = some b → K.get id = some b) (hn : A.next = K.next) (hs' : Sim B G' A' w') (he : Ext B A G w A' G' w') (f : Nat → Nat) (n : Nat)
    (hex : ∀ id b, K.get id = some b → A.get id = none → ∃ p < n, id = f p) :
    ∃ K', K'.next = A'.next ∧ (∀ id b, K.get id = some b → A.get id = none → K'.get id = some b ∧ A'.get id = none) ∧ (∀ id, (A.get id ≠ none ∨ K.get id = none) → K'.get id = A'.get id) ∧
      Sim B G' K' w' ∧ Ext B K G w K' G' w' := by
  obtain ⟨K', h1, h2⟩ := mix_heaps A A' K f n
  have hs : Sim B G A w := hK.sub hsub (by rw [hn]; exact Nat.le_refl _)
  have hle := he.le hs
  have extra : ∀ id b, K.get id = some b → A.get id = none → K'.get id = some b := fun id b hb hA => by
    obtain ⟨p, hp, e⟩ := hex id b hb hA
    rw [(h2 id).1 ⟨p, hp, e, hA, by rw [hb]; simp⟩, hb]
  have other : ∀ id, (A.get id ≠ none ∨ K.get id = none) → K'.get id = A'.get id := fun id h => (h2 id).2 fun ⟨p, hp, e, hA, hKn⟩ => by
    rcases h with h | h
    · exact h hA
    · exact hKn h
  -- what is beyond A is not among what A's step leaves
  have gone : ∀ id b, K.get id = some b → A.get id = none → A'.get id = none := fun id b hb hA => by
    cases hh : A'.get id with
    | none => rfl
    | some b' =>
      exfalso
      obtain ⟨k, hk, _⟩ := hK.blk id b hb
      obtain ⟨i', b'', g1, g2⟩ := he.live id b' k hh (he.β _ _ hk) (hK.small _ _ hk)
      have := hK.inj i' id _ _ k (hsub _ _ g1) hb g2 hk
      subst this
      rw [hA] at g1; cases g1
  have split : ∀ id b, K'.get id = some b → (A'.get id = some b ∧ (A.get id ≠ none ∨ K.get id = none)) ∨ (K.get id = some b ∧ A.get id = none) := fun id b hb => by
    cases hA : A.get id with
    | some u => left; exact ⟨by rw [← other id (.inl (by rw [hA]; simp))]; exact hb, .inl (by simp)⟩
    | none =>
      cases hKK : K.get id with
      | none => left; exact ⟨by rw [← other id (.inr hKK)]; exact hb, .inr rfl⟩
      | some u =>
        right
        have := extra id u hKK hA
        rw [hb] at this
        exact ⟨this.symm ▸ rfl, rfl⟩
  have hlive : ∀ i blk k, K'.get i = some blk → G'.β i = some k → k < w.heap.size → ∃ i' blk', K.get i' = some blk' ∧ G.β i' = some k := fun i blk k hi hk hlt => by
    rcases split i blk hi with ⟨h, _⟩ | ⟨h, _⟩
    · obtain ⟨i', b', g1, g2⟩ := he.live i blk k h hk hlt
      exact ⟨i', b', hsub _ _ g1, g2⟩
    · obtain ⟨k', hk', _⟩ := hK.blk i blk h
      have := he.β _ _ hk'
      rw [hk] at this
      cases this
      exact ⟨i, blk, h, hk'⟩
  refine ⟨K', h1, fun id b hb hA => ⟨extra id b hb hA, gone id b hb hA⟩, other, ⟨fun i b hi => ?_, fun i j bi bj k hi hj hki hkj => ?_, fun i k hk => ?_, hs'.small, hs'.nsmall, hs'.base⟩,
    ⟨⟨he.os, he.tape, he.output, he.size, he.β, he.N, fun b hb hno => he.other b hb fun i blk hi => hno i blk (hsub _ _ hi), hlive, he.shape, by rw [h1, ← hn]; exact he.next⟩, fun i hi hk => he.fix i (by rw [hn]; exact hi) hk⟩⟩
  · rcases split i b hi with ⟨h, _⟩ | ⟨h, hA⟩
    · exact hs'.blk i b h
    · obtain ⟨k, hk, hB, hN, hrel⟩ := hK.blk i b h
      refine ⟨k, he.β _ _ hk, hB, by rw [he.N]; exact hN, hrel.mono hle (he.other k (hK.small _ _ hk) fun i' blk' hi' hk' => ?_)⟩
      have := hK.inj i' i _ _ k (hsub _ _ hi') h hk' hk
      subst this
      rw [hA] at hi'; cases hi'
  · -- one place, one number
    rcases split i bi hi with ⟨h, _⟩ | ⟨h, hA⟩ <;> rcases split j bj hj with ⟨h', _⟩ | ⟨h', hA'⟩
    · exact hs'.inj i j bi bj k h h' hki hkj
    · exfalso
      obtain ⟨k', hk', _⟩ := hK.blk j bj h'
      have e := he.β _ _ hk'
      rw [hkj] at e; cases e
      obtain ⟨i', b', g1, g2⟩ := he.live i bi k h hki (hK.small _ _ hk')
      have := hK.inj i' j _ _ k (hsub _ _ g1) h' g2 hk'
      subst this
      rw [hA'] at g1; cases g1
    · exfalso
      obtain ⟨k', hk', _⟩ := hK.blk i bi h
      have e := he.β _ _ hk'
      rw [hki] at e; cases e
      obtain ⟨i', b', g1, g2⟩ := he.live j bj k h' hkj (hK.small _ _ hk')
      have := hK.inj i' i _ _ k (hsub _ _ g1) h g2 hk'
      subst this
      rw [hA] at g1; cases g1
    · obtain ⟨k1, hk1, _⟩ := hK.blk i bi h
      obtain ⟨k2, hk2, _⟩ := hK.blk j bj h'
      have e1 := he.β _ _ hk1
      have e2 := he.β _ _ hk2
      rw [hki] at e1; cases e1
      rw [hkj] at e2; cases e2
      exact hK.inj i j bi bj k h h' hk1 hk2
  · rw [h1]; exact hs'.old i k hk
end
end Go.AX
end
section
open Go (execOp)
/- AX: a region whose order is drawn: one more operation has run. -/
namespace Go.AX

section
variable {C : Cfg} {B n₀ : Nat} {call : CallF} {ops : Array Oper} {base n : Nat} {m : Nat → Mark1} {s : Nat → St} {v : Nat → AV}
variable {H0 : AHeap} {G0 G' : Ghost} {w0 w' : World} {S : Nat → Prop} {G : Ghost} {a : Act} {w : World} {qS qS' : Nat} {K K' : AHeap}

theorem Told.dsts (T : Told C call ops base n m s v) {p q : Nat} (hp : p < n) (hq : q < n) (hne : p ≠ q) {d : Tmp} (h : (m p).o.dst = some d) : (m q).o.dst ≠ some d := by
  rcases Nat.lt_or_ge p q with c | c
  · exact (T.pair p q c hq).1 d h
  · intro h'
    exact (T.pair q p (by omega) hp).1 d h' h

theorem Inv.add (T : Told C call ops base n m s v) (I : Inv C B n₀ ops base n m s v H0 G0 w0 S G a w qS K) {q : Nat} (hq : q < n) (hno : ¬ S (m q).i) (hready : ∀ e ∈ (m q).o.after, Region.binds .any e = true → S e.on)
    {x : Value} (hx : Rep G' w' (v q) x) (hs' : Sim B G' K' w') (he : Ext0 B K G w K' G' w') (hbeta : ∀ j, j < base + ops.size → j ≠ base + (m q).i → G.β j = none → G'.β j = none)
    (hknext : K'.next = (s qS').H.next) (hqs : qS' ≤ n) (hchain : ∀ p < n, cls C m p = 2 → ((S (m p).i ∨ (m p).i = (m q).i) ↔ p < qS')) (htop : qS' = 0 ∨ ∃ p, qS' = p + 1 ∧ p < n ∧ cls C m p = 2)
    (ha0 : ∀ id b, (s qS').H.get id = some b → K'.get id = some b)
    (hb : ∀ p < n, cls C m p = 3 → (S (m p).i ∨ (m p).i = (m q).i) → qS' ≤ p → ∀ blk, (s (p + 1)).H.get (base + (m p).i) = some blk → K'.get (base + (m p).i) = some blk)
    (hc : ∀ id b, K'.get id = some b → (s qS').H.get id = some b ∨ ∃ p < n, cls C m p = 3 ∧ (S (m p).i ∨ (m p).i = (m q).i) ∧ qS' ≤ p ∧ id = base + (m p).i) :
    Inv C B n₀ ops base n m s v H0 G0 w0 (fun j => S j ∨ j = (m q).i) G' (a.put (m q).o.dst x) w' qS' K' := by
  have hle := he.le I.sim
  have hi : ∀ p < n, (m p).i < ops.size := fun p hp => (Array.getElem?_eq_some_iff.1 (T.run.op p hp)).1
  have hkeep : ∀ t, (m q).o.dst ≠ some t → (a.put (m q).o.dst x).tmps[t]? = a.tmps[t]? := fun t ht => by
    cases hd : (m q).o.dst with
    | none => rfl
    | some d =>
      have : d ≠ t := fun e => ht (by rw [hd, e])
      simp [Act.put, Array.getElem?_setIfInBounds_ne this]
  refine ⟨fun i o ho hS e hee hb' => ?_, hs', I.glob.mono hle, by rw [put_defers]; exact DfrRep.mono I.sim he I.dfr, ?_, fun p hp hS d hd => ?_, fun t u ht hnone => ?_, I.ext.trans he, hknext, Nat.le_trans I.room he.next, fun p hp hS => ?_, fun j hj hg => ?_, hqs, hchain, htop, ha0, hb, hc⟩
  · rcases hS with hS | rfl
    · exact .inl (I.closed i o ho hS e hee hb')
    · have := T.run.op q hq
      rw [ho] at this
      cases this
      exact .inl (hready e hee hb')
  · cases hd : (m q).o.dst with
    | none => exact I.size
    | some d => simp [Act.put, I.size]
  · by_cases e : p = q
    · subst e
      refine ⟨x, ?_, hx⟩
      rw [hd]
      have := T.run.dst p hp d hd
      simp [Act.put, I.size, this]
    · have hS : S (m p).i := hS.resolve_right fun e' => e (T.run.inj p q hp hq e')
      obtain ⟨y, h1, h2⟩ := I.envA p hp hS d hd
      exact ⟨y, (hkeep d (T.dsts hp hq e hd)).trans h1, Rep.mono hle _ _ h2⟩
  · have hq' : (m q).o.dst ≠ some t := hnone q hq (.inr rfl)
    obtain ⟨y, h1, h2⟩ := I.envB t u ht fun p hp hS => hnone p hp (.inl hS)
    exact ⟨y, (hkeep t hq').trans h1, Rep.mono hle _ _ h2⟩
  · have h1 : ¬ S (m p).i := fun h => hS (.inl h)
    have h2 : (m p).i ≠ (m q).i := fun h => hS (.inr h)
    exact hbeta _ (by have := hi p hp; omega) (by omega) (I.beta p hp h1)
  · exact hbeta j (by omega) (by omega) (I.low j hj hg)
end
end Go.AX
end
section
open Go (execOp)
/- AX: a region whose order is drawn: whichever operation comes next. -/
namespace Go.AX

section
variable {C : Cfg} {B n₀ : Nat} {call : CallF} {ops : Array Oper} {base n : Nat} {m : Nat → Mark1} {s : Nat → St} {v : Nat → AV}
variable {H0 : AHeap} {G0 G' : Ghost} {w0 w' : World} {S : Nat → Prop} {G : Ghost} {a : Act} {w : World} {qS qS' : Nat} {K K' : AHeap}

/-- what comes behind: the invariant, with one operation more -/
def More (C : Cfg) (B n₀ : Nat) (ops : Array Oper) (base n : Nat) (m : Nat → Mark1) (s : Nat → St) (v : Nat → AV) (H0 : AHeap) (G0 : Ghost) (w0 : World) (S : Nat → Prop) (q : Nat) (a' : Act) (w' : World) : Prop :=
  ∃ G' qS' K', Inv C B n₀ ops base n m s v H0 G0 w0 (fun j => S j ∨ j = (m q).i) G' a' w' qS' K'

/-- nothing but a temporary turns -/
theorem Inv.calm (T : Told C call ops base n m s v) (I : Inv C B n₀ ops base n m s v H0 G0 w0 S G a w qS K) {q : Nat} (hq : q < n) (hno : ¬ S (m q).i) (hready : ∀ e ∈ (m q).o.after, Region.binds .any e = true → S e.on)
    {x : Value} (hx : Rep G w (v q) x) (h2 : cls C m q ≠ 2) (h3 : cls C m q ≠ 3) : More C B n₀ ops base n m s v H0 G0 w0 S q (a.put (m q).o.dst x) w := by
  have ne : ∀ p < n, (cls C m p = 2 ∨ cls C m p = 3) → (m p).i ≠ (m q).i := fun p hp hc e => by
    have := T.run.inj p q hp hq e
    subst this
    rcases hc with hc | hc
    · exact h2 hc
    · exact h3 hc
  refine ⟨G, qS, K, I.add T hq hno hready hx I.sim (Ext0.refl _ _ _ _) (fun _ _ _ h => h) I.knext I.qs (fun p hp hc => ?_) I.top I.a0 (fun p hp hc hS => I.b p hp hc (hS.resolve_right (ne p hp (.inr hc)))) (fun id b hb => ?_)⟩
  · rw [← I.chain p hp hc]
    exact ⟨fun h => h.resolve_right (ne p hp (.inl hc)), .inl⟩
  · rcases I.c id b hb with h | ⟨p, e1, e2, e3, e4, e5⟩
    · exact .inl h
    · exact .inr ⟨p, e1, e2, .inl e3, e4, e5⟩

/-- chain operations that have run came ahead of it, if it makes a block of its own, or is of the chain -/
theorem Inv.late (T : Told C call ops base n m s v) (I : Inv C B n₀ ops base n m s v H0 G0 w0 S G a w qS K) {q : Nat} (hq : q < n) (hno : ¬ S (m q).i) (h : cls C m q = 2 ∨ cls C m q = 3) : qS ≤ q := by
  rcases I.top with h0 | ⟨p, rfl, hp, hc⟩
  · omega
  · have hS : S (m p).i := (I.chain p hp hc).2 (by omega)
    rcases Nat.lt_trichotomy p q with c | c | c
    · omega
    · subst c; exact absurd hS hno
    · exfalso
      have sw := I.behind T hq hp c hno hS
      rcases h with h | h
      · exact sw.two h hc
      · exact sw.fresh h (.inr hc)

/-- a block of its own -/
theorem Inv.fresh (T : Told C call ops base n m s v) (I : Inv C B n₀ ops base n m s v H0 G0 w0 S G a w qS K) {q : Nat} (hq : q < n) (hno : ¬ S (m q).i) (hready : ∀ e ∈ (m q).o.after, Region.binds .any e = true → S e.on)
    {x : Value} {ob : Obj} {blk : AB} (hb : BRel G (plus w ob) w.heap.size blk) (hH : (s (q + 1)).H = (s q).H.putAt (base + (m q).i) blk) (hv : ∀ G' : Ghost, G'.β (base + (m q).i) = some w.heap.size → Rep G' (plus w ob) (v q) x)
    (h3 : cls C m q = 3) : More C B n₀ ops base n m s v H0 G0 w0 S q (a.put (m q).o.dst x) (plus w ob) := by
  have hge := I.late T hq hno (.inr h3)
  have hi : (m q).i < ops.size := (Array.getElem?_eq_some_iff.1 (T.run.op q hq)).1
  have hβ := I.beta q hq hno
  have hnone : K.get (base + (m q).i) = none := by
    cases hh : K.get (base + (m q).i) with
    | none => rfl
    | some b =>
      obtain ⟨k, hk, _⟩ := I.sim.blk _ _ hh
      rw [hβ] at hk; cases hk
  obtain ⟨G', e1, e2, e3, e4, e5⟩ := I.sim.put (base + (m q).i) K.next hβ (Nat.le_refl _) (by have := I.room; omega) hnone ob blk hb
  have hget : ∀ id, (AHeap.get ⟨K.next, K.tr.set (base + (m q).i) blk⟩ id) = if id = base + (m q).i then some blk else K.get id := fun id => Tr.get_set _ _ _ _
  have ne : ∀ p < n, cls C m p = 2 → (m p).i ≠ (m q).i := fun p hp hc e => by
    have := T.run.inj p q hp hq e
    subst this
    rw [h3] at hc; cases hc
  refine ⟨G', qS, ⟨K.next, K.tr.set (base + (m q).i) blk⟩, I.add T hq hno hready (hv G' e1) e2 e3 (fun j _ hj hg => (e4 j hj).trans hg) I.knext I.qs (fun p hp hc => ?_) I.top (fun id b hh => ?_) (fun p hp hc hS hge' b hh => ?_) (fun id b hh => ?_)⟩
  · rw [← I.chain p hp hc]
    exact ⟨fun h => h.resolve_right (ne p hp hc), .inl⟩
  · have := I.a0 id b hh
    rw [hget, if_neg (fun e => by rw [e, hnone] at this; cases this)]
    exact this
  · rw [hget]
    by_cases e : p = q
    · subst e
      rw [if_pos rfl]
      rw [hH, AHeap.get_putAt, if_pos rfl] at hh
      exact hh
    · have hne : (m p).i ≠ (m q).i := fun e' => e (T.run.inj p q hp hq e')
      rw [if_neg (by omega)]
      exact I.b p hp hc (hS.resolve_right hne) hge' b hh
  · rw [hget] at hh
    by_cases e : id = base + (m q).i
    · exact .inr ⟨q, hq, h3, .inr rfl, hge, e⟩
    · rw [if_neg e] at hh
      rcases I.c id b hh with h | ⟨p, f1, f2, f3, f4, f5⟩
      · exact .inl h
      · exact .inr ⟨p, f1, f2, .inl f3, f4, f5⟩

/-- of the chain: the heap that the one run knew there -/
theorem Inv.here (T : Told C call ops base n m s v) (I : Inv C B n₀ ops base n m s v H0 G0 w0 S G a w qS K) {q : Nat} (hq : q < n) (hno : ¬ S (m q).i) (hready : ∀ e ∈ (m q).o.after, Region.binds .any e = true → S e.on) (h2 : cls C m q = 2) :
    qS ≤ q ∧ (∀ p, qS ≤ p → p < q → cls C m p ≠ 2) ∧ (∀ p, qS ≤ p → p < q → cls C m p = 3 → S (m p).i) := by
  refine ⟨I.late T hq hno (.inl h2), fun p hge hlt hc => ?_, fun p hge hlt hc => ?_⟩
  · by_cases hS : S (m p).i
    · have := (I.chain p (by omega) hc).1 hS
      omega
    · exact (I.ahead T hq hlt hS hready).two hc h2
  · by_cases hS : S (m p).i
    · exact hS
    · exact ((I.ahead T hq hlt hS hready).fresh hc (.inr h2)).elim

theorem Inv.link (T : Told C call ops base n m s v) (I : Inv C B n₀ ops base n m s v H0 G0 w0 S G a w qS K) {q : Nat} (hq : q < n) (hno : ¬ S (m q).i) (hready : ∀ e ∈ (m q).o.after, Region.binds .any e = true → S e.on)
    {x : Value} (hs' : Sim B G' (s (q + 1)).H w') (he : Ext B (s q).H G w (s (q + 1)).H G' w') (hx : Rep G' w' (v q) x) (h2 : cls C m q = 2) :
    More C B n₀ ops base n m s v H0 G0 w0 S q (a.put (m q).o.dst x) w' := by
  obtain ⟨hge, hch, hfr⟩ := I.here T hq hno hready h2
  obtain ⟨hsub, hnx⟩ := I.part T (Nat.le_of_lt hq) hge hch hfr
  obtain ⟨g1, g2, g3⟩ := T.grow hge (Nat.le_of_lt hq) hch
  -- what is beyond: blocks of their own that have run early
  have beyond : ∀ id b, K.get id = some b → (s q).H.get id = none → ∃ p < n, cls C m p = 3 ∧ S (m p).i ∧ q < p ∧ id = base + (m p).i := fun id b hb hA => by
    rcases I.c id b hb with h | ⟨p, f1, f2, f3, f4, rfl⟩
    · rw [g2 _ _ h] at hA; cases hA
    · refine ⟨p, f1, f2, f3, ?_, rfl⟩
      rcases Nat.lt_trichotomy p q with c | c | c
      · exfalso
        -- it stands ahead of q in the one run: it lies in its heap
        have hd := T.run.did p f1
        unfold Did at hd
        unfold cls clsOf at f2
        cases hw : (m p).want with
        | false => rw [hw] at f2; simp at f2
        | true =>
          simp only [hw, cond_true] at hd f2
          cases hway : wayOf C.P (m p).o <;> rw [hway] at hd f2 <;> simp only [Way.cls] at hd f2 <;> try contradiction
          obtain ⟨blk, _, e⟩ := hd
          have hp1 : (s (p + 1)).H.get (base + (m p).i) = some blk := by rw [e, AHeap.get_putAt, if_pos rfl]
          obtain ⟨_, k2, _⟩ := T.grow (q1 := p + 1) (q2 := q) (by omega) (Nat.le_of_lt hq) (fun r hr1 hr2 => hch r (by omega) hr2)
          rw [k2 _ _ hp1] at hA; cases hA
      · subst c; exact absurd f3 hno
      · exact c
  obtain ⟨K', k1, k2, k3, k4, k5⟩ := I.sim.frame hsub hnx.symm hs' he (fun p => base + (m p).i) n (fun id b hb hA => by obtain ⟨p, f1, _, _, _, f5⟩ := beyond id b hb hA; exact ⟨p, f1, f5⟩)
  have hi : (m q).i < ops.size := (Array.getElem?_eq_some_iff.1 (T.run.op q hq)).1
  refine ⟨G', q + 1, K', I.add T hq hno hready hx k4 k5.toExt0 (fun j hj _ hg => k5.fix j (Nat.lt_of_lt_of_le hj I.room) hg) k1 hq (fun p hp hc => ?_) (.inr ⟨q, rfl, hq, h2⟩) (fun id b hh => ?_) (fun p hp hc hS hge' b hh => ?_) (fun id b hh => ?_)⟩
  · constructor
    · rintro (hS | e)
      · have := (I.chain p hp hc).1 hS
        omega
      · have := T.run.inj p q hp hq e
        omega
    · intro hlt
      by_cases e : p = q
      · subst e; exact .inr rfl
      · left
        by_cases hS : S (m p).i
        · exact hS
        · exact ((I.ahead T hq (by omega) hS hready).two hc h2).elim
  · by_cases hA : (s q).H.get id = none
    · cases hK : K.get id with
      | none => rw [k3 id (.inr hK)]; exact hh
      | some u => have := (k2 id u hK hA).2; rw [hh] at this; cases this
    · rw [k3 id (.inl hA)]; exact hh
  · -- a block of its own that stands behind q
    have hne : p ≠ q := by omega
    have hS' : S (m p).i := hS.resolve_right fun e => hne (T.run.inj p q hp hq e)
    have hK := I.b p hp hc hS' (by omega) b hh
    have hA : (s q).H.get (base + (m p).i) = none := (T.pair q p (by omega) hp).2.1 hc
    exact (k2 _ _ hK hA).1
  · by_cases hA : (s q).H.get id = none
    · cases hK : K.get id with
      | none => rw [k3 id (.inr hK)] at hh; exact .inl hh
      | some u =>
        obtain ⟨p, f1, f2, f3, f4, f5⟩ := beyond id u hK hA
        exact .inr ⟨p, f1, f2, .inl f3, by omega, f5⟩
    · rw [k3 id (.inl hA)] at hh; exact .inl hh
end
end Go.AX
end
