/- AX: an executor over an abstract heap for the model's programs, and its soundness: part 2: AxOps3, AxPure, AxRead, AxRead2, AxEq, AxLook, AxFresh, AxNew, AxWrite, AxAppend, AxAppend2. No condition: each theorem states its own premises. -/
import Derived.Laws.Cells
import Derived.Laws.StructEq
import Derived.Laws.BytesString
import Derived.Test.YtllkmclobkamkaaGreatDoorAx1
set_option linter.unusedSimpArgs false
set_option linter.unusedVariables false
set_option linter.unnecessarySimpa false
section
open Go (execOp)
/- AX: operations that look at their operands alone: the theorem. -/
namespace Go.AX

section
variable {P : Program} {G : Ghost} {w : World}

theorem typeAssertA_sound {a v : AV} {x : Value} {xType asserted : TypeId} {ok : Bool} (h : typeAssertA P a asserted ok = some v) (hx : Rep G w a x) :
    ∃ z, (Instr.typeAssert x xType asserted ok).run P w = .ok z w ∧ Rep G w v z := by
  unfold typeAssertA at h
  have hholds : ∀ {u : AV} {y : Value}, Rep G w u y → (bif ok then AV.tuple [u, .bool true] else u) = v →
      ∃ z, (pure (if ok then .tuple #[y, .bool true] else y) : Sem Value).run P w = .ok z w ∧ Rep G w v z := by
    intro u y hu he
    cases ok with
    | true => simp only [cond_true] at he; subst he; refine ⟨_, rfl, ?_⟩; simp only [if_true, Rep]; exact ⟨[y, .bool true], rfl, by simp only [RepL]; exact ⟨y, _, rfl, hu, _, _, rfl, by simp [Rep], rfl⟩⟩
    | false => simp only [cond_false] at he; subst he; exact ⟨_, rfl, by simpa using hu⟩
  have hfails : ∀ (s d : Option TypeId) (m : String), (bif ok then (zeroOf P asserted).map fun z => AV.tuple [z, .bool false] else none) = some v →
      ∃ z, (if ok then do pure (.tuple #[← zeroValue asserted, .bool false]) else runtimePanic (.typeAssertion s d asserted m) : Sem Value).run P w = .ok z w ∧ Rep G w v z := by
    intro s d m he
    cases ok with
    | false => simp at he
    | true =>
      simp only [cond_true] at he
      obtain ⟨z, hz, rfl⟩ := map_some he
      obtain ⟨zz, h1, h2, _⟩ := r_zero_rep (G := G) hz w
      refine ⟨.tuple #[zz, .bool false], ?_, ?_⟩
      · simp only [if_true]; rw [run_bind_ok h1]; rfl
      · simp only [Rep]; exact ⟨[zz, .bool false], rfl, by simp only [RepL]; exact ⟨zz, _, rfl, h2, _, _, rfl, by simp [Rep], rfl⟩⟩
  simp only at h
  cases hu : P.underlying asserted with
  | none => rw [hu] at h; cases a <;> simp at h
  | some d =>
    rw [hu] at h
    cases a <;> (try (cases d <;> simp at h; done))
    case nilIface =>
      simp only [Rep] at hx; subst hx
      cases d <;>
        (simp only at h
         obtain ⟨z, h1, h2⟩ := hfails (some xType) none "" h
         first
           | exact ⟨z, by rw [Instr.typeAssert, run_bind_ok (r_under hu w)]; exact h1, h2⟩
           | (obtain ⟨z, h1, h2⟩ := hfails none none "" h
              exact ⟨z, by rw [Instr.typeAssert, run_bind_ok (r_under hu w)]; exact h1, h2⟩))
    case iface t u =>
      simp only [Rep] at hx
      obtain ⟨y, rfl, hy⟩ := hx
      cases d <;> simp only at h
      case interface want =>
        cases hi : P.info? t with
        | none => rw [hi] at h; simp at h
        | some i =>
          rw [hi] at h; simp only at h
          cases hm : Instr.missingMethod want i.methods with
          | none =>
            rw [hm] at h; simp only [Option.some.injEq] at h
            have hr : Rep G w (.iface t u) (.iface t y) := by simp only [Rep]; exact ⟨y, rfl, hy⟩
            obtain ⟨z, h1, h2⟩ := hholds hr h
            refine ⟨z, ?_, h2⟩
            rw [Instr.typeAssert, run_bind_ok (r_under hu w)]
            simp only []
            rw [run_bind_ok (r_info hi w), hm]; exact h1
          | some m =>
            rw [hm] at h; simp only at h
            obtain ⟨z, h1, h2⟩ := hfails none (some t) m h
            refine ⟨z, ?_, h2⟩
            rw [Instr.typeAssert, run_bind_ok (r_under hu w)]
            simp only []
            rw [run_bind_ok (r_info hi w), hm]; exact h1
      all_goals
        rw [nbeq] at h
        by_cases e : t = asserted
        · rw [decide_eq_true e] at h
          simp only [cond_true, Option.some.injEq] at h
          obtain ⟨z, h1, h2⟩ := hholds hy h
          refine ⟨z, ?_, h2⟩
          rw [Instr.typeAssert, run_bind_ok (r_under hu w)]
          simp only [e, if_true]; exact h1
        · rw [decide_eq_false e] at h
          simp only [cond_false] at h
          obtain ⟨z, h1, h2⟩ := hfails (some xType) (some t) "" h
          refine ⟨z, ?_, h2⟩
          rw [Instr.typeAssert, run_bind_ok (r_under hu w)]
          simp only [e, if_false]; exact h1

theorem r_lenOf {a : AV} {n : Nat} {x : Value} (h : lenOf a = some n) (hx : Rep G w a x) :
    (∃ b c, x = .slice b n c) ∨ (∃ s : ByteArray, x = .string s ∧ s.size = n) := by
  cases a <;> simp [lenOf] at h
  case str s => simp only [Rep] at hx; obtain ⟨b, rfl, rfl⟩ := hx; right; exact ⟨b, rfl, by rw [← h]; simp⟩
  case snil => subst h; simp only [Rep] at hx; subst hx; left; exact ⟨_, _, rfl⟩
  case emp => subst h; simp only [Rep] at hx; obtain ⟨a, rfl⟩ := hx; left; exact ⟨_, _, rfl⟩
  case slc b off len cap esz => subst h; simp only [Rep] at hx; obtain ⟨k, c, _, rfl, _⟩ := hx; left; exact ⟨_, _, rfl⟩
  case lst cs len => subst h; simp only [Rep] at hx; obtain ⟨b, off, c, vs, rfl, _⟩ := hx; left; exact ⟨_, _, rfl⟩

theorem lenA_sound {ts : Array TypeId} {ty : TypeId} {a v : AV} {x : Value} {H : AHeap} {B : Nat} (hs : Sim B G H w ∨ H = .empty) (h : lenA P H ts a = some v) (hx : Rep G w a x) :
    ∃ z, (Builtin.len_ ts ty #[x]).run P w = .ok z w ∧ Rep G w v z := by
  unfold lenA at h
  cases ht : ts[0]? with
  | none => simp [ht] at h
  | some t =>
    rw [ht] at h
    simp only [Option.bind_some] at h
    have hx0 : (#[x] : Array Value)[0]? = some x := rfl
    cases hu : P.underlying t with
    | none => rw [hu] at h; simp at h
    | some d =>
      rw [hu] at h
      have start : ∀ {r : Result Value}, ((do match d, x with
          | .string, .string s => pure (goInt s.size)
          | .array n _, _ => pure (goInt n)
          | .pointer arr, _ =>
            let .array n _ ← underlying arr | stuck "len: pointer to array expected"
            pure (goInt n)
          | .slice _, .slice _ n _ => pure (goInt n)
          | .map _ _, .map none | .chan _ _, .chan none => pure (goInt 0)
          | .map _ _, .map (some r) =>
            let .map entries _ ← getObj r | stuck "len: map expected"
            pure (goInt entries.size)
          | .chan _ _, .chan (some r) =>
            let .chan _ buf _ _ _ timer ← getObj r | stuck "len: channel expected"
            pure (goInt (if timer then 0 else buf.size))
          | _, _ => stuck "len: string, array, pointer to array, slice, map or channel expected" : Sem Value).run P w = r) → (Builtin.len_ ts ty #[x]).run P w = r := by
        intro r hr
        rw [Builtin.len_]
        simp only [ht, hx0]
        rw [run_bind_ok (r_under hu w)]
        exact hr
      cases d <;> simp only at h <;> try contradiction
      case string =>
        cases a <;> simp only [Option.some.injEq] at h <;> try contradiction
        subst h
        simp only [Rep] at hx
        obtain ⟨b, rfl, rfl⟩ := hx
        exact ⟨goInt b.size, start rfl, by simp [Rep, AV.goInt, goInt]⟩
      case slice e =>
        cases a <;> simp only [Option.some.injEq] at h <;> try contradiction
        all_goals (subst h; simp only [Rep] at hx)
        · subst hx; exact ⟨goInt 0, start rfl, by simp [Rep, AV.goInt, goInt]⟩
        · obtain ⟨a, rfl⟩ := hx; exact ⟨goInt 0, start rfl, by simp [Rep, AV.goInt, goInt]⟩
        · obtain ⟨k, c, _, rfl, _⟩ := hx; exact ⟨_, start rfl, by simp [Rep, AV.goInt, goInt]⟩
        · obtain ⟨b, off, c, vs, rfl, _⟩ := hx; exact ⟨_, start rfl, by simp [Rep, AV.goInt, goInt]⟩
      case array n e =>
        simp only [Option.some.injEq] at h; subst h
        exact ⟨goInt n, start rfl, by simp [Rep, AV.goInt, goInt]⟩
      case pointer arr =>
        cases hua : P.underlying arr with
        | none => rw [hua] at h; simp at h
        | some da =>
          rw [hua] at h
          cases da <;> simp only [Option.some.injEq] at h <;> try contradiction
          subst h
          exact ⟨_, start (by simp only []; rw [run_bind_ok (r_under hua w)]; rfl), by simp [Rep, AV.goInt, goInt]⟩
      case map k e =>
        cases a <;> simp only [Option.some.injEq] at h <;> try contradiction
        · subst h
          simp only [Rep] at hx; subst hx
          exact ⟨goInt 0, start rfl, by simp [Rep, AV.goInt, goInt]⟩
        · rename_i b
          cases hb : H.get b with
          | none => rw [hb] at h; simp at h
          | some blk =>
            rw [hb] at h
            cases blk <;> simp only [Option.some.injEq] at h <;> try contradiction
            subst h
            rename_i es clock
            rcases hs with hs | rfl
            · obtain ⟨kb, h1, _, _, h2⟩ := hs.blk b _ hb
              simp only [Rep] at hx
              obtain ⟨k', hk', rfl⟩ := hx
              rw [h1] at hk'; cases hk'
              obtain ⟨ces, h3, h4⟩ := h2
              have hlen : ces.length = es.length := by
                have : ∀ (es : List (AV × AV × Nat)) (ces : List MapEntry), RepE G w es ces → ces.length = es.length := by
                  intro es
                  induction es with
                  | nil => intro ces h; simp only [RepE] at h; subst h; rfl
                  | cons e es ih => obtain ⟨k, v, n⟩ := e; intro ces h; simp only [RepE] at h; obtain ⟨e, es', rfl, _, _, _, h⟩ := h; simp [ih _ h]
                exact this es ces h4
              have hg : (getObj kb).run P w = .ok (.map ⟨ces⟩ clock) w := by
                simp [getObj, Sem.run, h3]
              refine ⟨goInt es.length, start ?_, by simp [Rep, AV.goInt, goInt]⟩
              simp only []
              rw [run_bind_ok hg]
              simp only [List.size_toArray, hlen]; rfl
            · simp [AHeap.empty, AHeap.get, Tr.get] at hb

theorem capA_sound {ts : Array TypeId} {ty : TypeId} {a v : AV} {x : Value} (h : capA P ts a = some v) (hx : Rep G w a x) :
    ∃ z, (Builtin.cap_ ts ty #[x]).run P w = .ok z w ∧ Rep G w v z := by
  unfold capA at h
  cases ht : ts[0]? with
  | none => simp [ht] at h
  | some t =>
    rw [ht] at h
    simp only [Option.bind_some] at h
    have hx0 : (#[x] : Array Value)[0]? = some x := rfl
    cases hu : P.underlying t with
    | none => rw [hu] at h; simp at h
    | some d =>
      rw [hu] at h
      cases d <;> (try (cases a <;> simp at h; done))
      case array n e =>
        have h' : v = .goInt n := by cases a <;> exact (Option.some.inj h).symm
        subst h'
        refine ⟨goInt n, ?_, by simp [Rep, AV.goInt, goInt]⟩
        rw [Builtin.cap_]; simp only [ht, hx0]; rw [run_bind_ok (r_under hu w)]; rfl
      case slice e =>
        cases a <;> (try simp only [Option.some.injEq] at h) <;> try contradiction
        · subst h; simp only [Rep] at hx; subst hx
          refine ⟨goInt 0, ?_, by simp [Rep, AV.goInt, goInt]⟩
          rw [Builtin.cap_]; simp only [ht, hx0]; rw [run_bind_ok (r_under hu w)]; rfl
        · subst h; simp only [Rep] at hx; obtain ⟨a, rfl⟩ := hx
          refine ⟨goInt 0, ?_, by simp [Rep, AV.goInt, goInt]⟩
          rw [Builtin.cap_]; simp only [ht, hx0]; rw [run_bind_ok (r_under hu w)]; rfl
        · rename_i b off len cap esz
          cases cap with
          | none => simp at h
          | some c =>
            simp only [Option.some.injEq] at h; subst h
            simp only [Rep] at hx; obtain ⟨k, c', _, rfl, _, hc, _⟩ := hx
            have := hc c rfl; subst this
            refine ⟨goInt c', ?_, by simp [Rep, AV.goInt, goInt]⟩
            rw [Builtin.cap_]; simp only [ht, hx0]; rw [run_bind_ok (r_under hu w)]; rfl

theorem min2A_sound {less : Bool} {a b v : AV} {x y : Value} (h : min2A less a b = some v) (hx : Rep G w a x) (hy : Rep G w b y) :
    ∃ z, ((if less then Builtin.min2 x y else Builtin.max2 x y) : Sem Value).run P w = .ok z w ∧ Rep G w v z := by
  unfold min2A at h
  cases a <;> cases b <;> simp only at h <;> try contradiction
  rename_i k i k' j
  obtain ⟨hk, h⟩ := cond_some h
  simp only [Option.some.injEq] at h; subst h
  simp only [Rep] at hx hy; subst hx; subst hy
  cases less
  · exact ⟨_, rfl, by simp [Rep]⟩
  · exact ⟨_, rfl, by simp [Rep]⟩

theorem minA_sound {less : Bool} : ∀ {r : List AV} {a v : AV} {x : Value} {rs : List Value}, minA less a r = some v → Rep G w a x → RepL G w r rs →
    ∃ z, ((if less then rs.foldlM Builtin.min2 x else rs.foldlM Builtin.max2 x) : Sem Value).run P w = .ok z w ∧ Rep G w v z
  | [], a, v, x, rs, h, hx, hr => by
    simp only [minA, Option.some.injEq] at h; subst h
    simp only [RepL] at hr; subst hr
    cases less <;> exact ⟨x, rfl, hx⟩
  | b :: r, a, v, x, rs, h, hx, hr => by
    simp only [minA] at h
    obtain ⟨c, hc, h⟩ := bind_some h
    simp only [RepL] at hr
    obtain ⟨y, ys, rfl, hy, hr⟩ := hr
    obtain ⟨z, h1, h2⟩ := min2A_sound (P := P) hc hx hy
    obtain ⟨z', h3, h4⟩ := minA_sound (r := r) h h2 hr
    refine ⟨z', ?_, h4⟩
    cases less
    · simp only [Bool.false_eq_true, if_false, List.foldlM_cons] at h1 h3 ⊢
      rw [run_bind_ok h1]; exact h3
    · simp only [if_true, List.foldlM_cons] at h1 h3 ⊢
      rw [run_bind_ok h1]; exact h3

theorem sliceStr_sound {t : TypeId} {s : List Nat} {v : AV} {x : Value} {lo hi mx : Option AV} {lo' hi' mx' : Option Value} (h : sliceA P .empty t (.str s) lo hi mx = some v)
    (hx : Rep G w (.str s) x) (h1 : RepOpt G w lo lo') (h2 : RepOpt G w hi hi') (h3 : RepOpt G w mx mx') : ∃ z, (Instr.sliceAt t x lo' hi' mx').run P w = .ok z w ∧ Rep G w v z := by
  unfold sliceA at h
  cases hu : P.underlying t with
  | none => rw [hu] at h; simp at h
  | some d =>
    rw [hu] at h
    cases d <;> (try (simp only at h; contradiction))
    case string =>
      cases mx with
      | some _ => simp only at h; contradiction
      | none =>
        cases mx' with
        | some _ => exact h3.elim
        | none =>
        simp only at h
        cases hb : bounds s.length s.length lo hi none with
        | none => rw [hb] at h; simp at h
        | some r =>
          obtain ⟨l, hh, m⟩ := r
          rw [hb] at h
          simp only [Option.some.injEq] at h; subst h
          simp only [Rep] at hx
          obtain ⟨b, rfl, rfl⟩ := hx
          have hlen : (b.data.toList.map UInt8.toNat).length = b.size := by simp
          rw [hlen] at hb
          obtain ⟨e1, e2, e3, _⟩ := r_bounds (P := P) (isSlice := false) h1 h2 h3 hb
          have e4 := e3 (Or.inl (Nat.le_refl _))
          refine ⟨.string (b.extract l hh), ?_, ?_⟩
          · rw [Instr.sliceAt, run_bind_ok (r_under hu w)]
            simp only []
            rw [Instr.slice, run_bind_ok (r_under hu w)]
            simp only [Option.isSome_none, Bool.false_eq_true, if_false]
            try rw [run_bind_ok (a := ()) (w' := w) rfl]
            rw [run_bind_ok e1]; rfl
          · simp only [Rep]
            refine ⟨_, rfl, ?_⟩
            have : (b.extract l hh).data.toList = (b.data.toList.drop l).take (hh - l) := by
              simp [ByteArray.data_extract, List.extract_eq_take_drop]
            rw [this]; simp
    case slice e =>
      simp only at h
      split at h <;> contradiction

theorem sliceArr_sound {t e : TypeId} {n b off l hh m size : Nat} {x : Value} {lo hi mx : Option AV} {lo' hi' mx' : Option Value} (hu : P.underlying t = some (.array n e)) (hb : bounds n n lo hi mx = some (l, hh, m))
    (hn : sizeOf P e = some size)
    (hx : Rep G w (.ptr b off) x) (h1 : RepOpt G w lo lo') (h2 : RepOpt G w hi hi') (h3 : RepOpt G w mx mx') :
    ∃ z, (Instr.sliceAt t x lo' hi' mx').run P w = .ok z w ∧ Rep G w (.slc b (if m = l then off else off + l * size) (hh - l) (some (m - l)) size) z := by
  simp only [Rep] at hx
  obtain ⟨k, hk, rfl⟩ := hx
  obtain ⟨e1, e2, e3, e4, _⟩ := r_bounds (P := P) (isSlice := false) h1 h2 h3 hb
  have hhm : hh ≤ m := e3 (Or.inl (Nat.le_refl _))
  refine ⟨.slice (some (if m = l then (⟨k, off, none⟩ : Addr) else ⟨k, off + l * size, none⟩)) (hh - l) (m - l), ?_, ?_⟩
  · rw [Instr.sliceAt, run_bind_ok (r_under hu w)]
    simp only []
    rw [run_bind_ok (a := (⟨k, off, none⟩ : Addr)) (w' := w) rfl, run_bind_ok e1]
    simp only []
    rw [run_bind_ok (r_size hn w), add_eq]; rfl
  · simp only [Rep]
    refine ⟨k, m - l, hk, ?_, by omega, fun c' hc => by cases hc; rfl, fun h => nomatch h⟩
    by_cases e : m = l <;> simp [e]
end
end Go.AX
end
section
open Go (execOp)
/- AX: kind 0. -/
namespace Go.AX

section
variable {C : Cfg} {G : Ghost} {w : World}

theorem call_builtin {ρ : Operand → Value} {c : Call} {b : Builtin} (hc : c.callee = .builtin b) (ty : TypeId) (P : Program) (w : World) :
    (do let d ← resolve ρ c ty; invoke d.target d.args : Sem Next).run P w = (builtin b c.argTypes ty (c.args.map fun | .const _ => true | _ => false) (c.args.map ρ)).run P w := by
  have : (resolve ρ c ty).run P w = .ok { target := .builtin b c.argTypes ty (c.args.map fun | .const _ => true | _ => false), args := c.args.map ρ } w := by
    unfold resolve; simp only [hc]; rfl
  rw [run_bind_ok this]; rfl

theorem args_one {G : Ghost} {w : World} {ρ : Operand → Option AV} {ρ' : Operand → Value} (hρ : RepO G w ρ ρ') {xs : Array Operand} {v : AV} (h : evalL ρ xs.toList = some [v]) : ∃ x, xs.map ρ' = #[x] ∧ Rep G w v x := by
  have := r_evalL hρ h
  simp only [RepL] at this
  obtain ⟨y, ys, h1, h2, h3⟩ := this
  subst h3
  exact ⟨y, by apply Array.ext'; simpa using h1, h2⟩

theorem evalPure_sound {ρ : Operand → Option AV} {ρ' : Operand → Value} (hρ : RepO G w ρ ρ') {o : Oper} {v : AV} (h : evalPure C ρ o = some v) :
    ∃ x, (execOp ρ' o).run C.P w = .ok (.value x) w ∧ Rep G w v x := by
  obtain ⟨dst, op, type, pos, after, guard⟩ := o
  unfold evalPure at h
  cases op <;> simp only at h <;> try contradiction
  case move x => exact ⟨ρ' x, rfl, hρ _ _ h⟩
  case assign x => exact ⟨ρ' x, rfl, hρ _ _ h⟩
  case pick c a b =>
    split at h <;> try contradiction
    rename_i t x y hc ha hb
    simp only [Option.some.injEq] at h; subst h
    have hc' := hρ _ _ hc
    simp only [Rep] at hc'
    refine ⟨if t then ρ' a else ρ' b, ?_, by cases t; exact hρ _ _ hb; exact hρ _ _ ha⟩
    simp only [execOp, hc']
    cases t <;> rfl
  case build t parts =>
    obtain ⟨ps, h1, h2⟩ := bind_some h
    have hp := r_evalP hρ h1
    obtain ⟨z, h3, h4⟩ := buildA_sound (ps := parts.map fun (i, x) => (i, ρ' x)) h2 (by simpa using hp)
    exact ⟨z, run_value h3, h4⟩
  case nilCheck x =>
    cases hx : ρ x with
    | none => rw [hx] at h; simp at h
    | some a =>
      rw [hx] at h
      have hr := hρ _ _ hx
      have fin : ∀ {y : Value}, ρ' x = y → Rep G w v y → (match y with | .pointer none | .nilIface | .nilFunc => False | .func (.method _) _ _ => False | _ => True) →
          ∃ x_1, (execOp ρ' { dst, op := .nilCheck x, type, pos, after, guard }).run C.P w = .ok (.value x_1) w ∧ Rep G w v x_1 := by
        intro y hy hv hne
        refine ⟨y, ?_, hv⟩
        simp only [execOp, hy]
        cases y with
        | pointer p => cases p <;> first | exact hne.elim | rfl
        | func fn a b => cases fn <;> first | exact hne.elim | rfl
        | nilIface => exact hne.elim
        | nilFunc => exact hne.elim
        | _ => rfl
      cases a <;> (try simp only [Option.some.injEq] at h) <;> (try contradiction)
      case ptr b o => subst h; have h' := hr; simp only [Rep] at h'; obtain ⟨k, _, e⟩ := h'; exact fin rfl hr (by rw [e]; trivial)
      case lptr cs => subst h; have h' := hr; simp only [Rep] at h'; obtain ⟨b, o, vs, e, _⟩ := h'; exact fin rfl hr (by rw [e]; trivial)
      case snil => subst h; have h' := hr; simp only [Rep] at h'; exact fin rfl hr (by rw [h']; trivial)
      case slc b o l c e => subst h; have h' := hr; simp only [Rep] at h'; obtain ⟨k, c, _, e, _⟩ := h'; exact fin rfl hr (by rw [e]; trivial)
      case lst cs n => subst h; have h' := hr; simp only [Rep] at h'; obtain ⟨b, o, c, vs, e, _⟩ := h'; exact fin rfl hr (by rw [e]; trivial)
      case map m => subst h; have h' := hr; simp only [Rep] at h'; obtain ⟨k, _, e⟩ := h'; exact fin rfl hr (by rw [e]; trivial)
      case func fn a b =>
        cases fn <;> (try simp only [Option.some.injEq] at h) <;> try contradiction
        subst h; have h' := hr; simp only [Rep] at h'; obtain ⟨_, _, e, _⟩ := h'; exact fin rfl hr (by rw [e]; trivial)
      case iface t a => subst h; have h' := hr; simp only [Rep] at h'; obtain ⟨_, e, _⟩ := h'; exact fin rfl hr (by rw [e]; trivial)
  case binOp op t x y yt =>
    split at h <;> try contradiction
    rename_i a b ha hb
    have h' : binA op a b = some v := by
      cases op <;> simp only at h <;> first | exact h | exact (cond_some h).2
    obtain ⟨z, h1, h2⟩ := binA_sound (P := C.P) (t := t) (ox := x) (oy := y) h' (hρ _ _ ha) (hρ _ _ hb)
    exact ⟨z, run_value h1, h2⟩
  case unOp op t x =>
    obtain ⟨a, h1, h2⟩ := bind_some h
    obtain ⟨z, h3, h4⟩ := unA_sound (P := C.P) h2 (hρ _ _ h1)
    exact ⟨z, run_value h3, h4⟩
  case convert src dst' x =>
    obtain ⟨a, h1, h2⟩ := bind_some h
    obtain ⟨z, h3, h4⟩ := convA_sound h2 (hρ _ _ h1)
    exact ⟨z, run_value h3, h4⟩
  case makeInterface t x =>
    split at h <;> try contradiction
    rename_i d hd hu
    obtain ⟨a, h1, rfl⟩ := map_some h
    refine ⟨.iface t (ρ' x), run_value ?_, by simp only [Rep]; exact ⟨_, rfl, hρ _ _ h1⟩⟩
    rw [Instr.makeInterface, run_bind_ok (r_under hu w)]
    cases d <;> first | rfl | exact absurd rfl (hd _)
  case makeFunc fn first captured =>
    split at h <;> try contradiction
    rename_i a b ha hb
    simp only [Option.some.injEq] at h; subst h
    have h1 := r_evalL hρ ha
    have h2 := r_evalL hρ hb
    refine ⟨.func fn (first.map ρ') (captured.map ρ'), rfl, ?_⟩
    simp only [Rep]
    refine ⟨first.toList.map ρ', captured.toList.map ρ', ?_, h1, h2⟩
    congr 1 <;> (apply Array.ext'; simp)
  case slice t x lo hi mx =>
    split at h <;> try contradiction
    rename_i a lo' hi' mx' ha hlo hhi hmx
    have e1 := r_evalOpt hρ hlo
    have e2 := r_evalOpt hρ hhi
    have e3 := r_evalOpt hρ hmx
    have hx := hρ _ _ ha
    cases a <;> simp only at h <;> try contradiction
    case str s =>
      obtain ⟨z, h3, h4⟩ := sliceStr_sound h hx e1 e2 e3
      exact ⟨z, run_value h3, h4⟩
    case ptr b off =>
      split at h <;> try contradiction
      rename_i n e hu
      split at h <;> try contradiction
      rename_i l hh m size hb hn
      simp only [Option.some.injEq] at h; subst h
      obtain ⟨z, h3, h4⟩ := sliceArr_sound hu hb hn hx e1 e2 e3
      exact ⟨z, run_value h3, h4⟩
  case fieldAddr t x i =>
    obtain ⟨a, h1, h2⟩ := bind_some h
    obtain ⟨z, h3, h4⟩ := fieldAddrA_sound h2 (hρ _ _ h1)
    exact ⟨z, run_value h3, h4⟩
  case field t x i =>
    obtain ⟨a, h1, h2⟩ := bind_some h
    obtain ⟨z, h3, h4⟩ := fieldA_sound h2 (hρ _ _ h1)
    exact ⟨z, run_value h3, h4⟩
  case indexAddr t x i =>
    split at h <;> try contradiction
    rename_i a b ha hb
    obtain ⟨z, h3, h4⟩ := indexAddrA_sound h (hρ _ _ ha) (hρ _ _ hb)
    exact ⟨z, run_value h3, h4⟩
  case index t x i =>
    split at h <;> try contradiction
    rename_i a b ha hb
    obtain ⟨z, h3, h4⟩ := indexA_sound h (hρ _ _ ha) (hρ _ _ hb)
    exact ⟨z, run_value h3, h4⟩
  case typeAssert x xt asserted ok =>
    obtain ⟨a, h1, h2⟩ := bind_some h
    obtain ⟨z, h3, h4⟩ := typeAssertA_sound (xType := xt) h2 (hρ _ _ h1)
    exact ⟨z, run_value h3, h4⟩
  case extract x i =>
    split at h <;> try contradiction
    rename_i vs hx
    have hr := hρ _ _ hx
    simp only [Rep] at hr
    obtain ⟨us, e, hr⟩ := hr
    obtain ⟨y, hy, hry⟩ := hr.get h
    refine ⟨y, run_value ?_, hry⟩
    rw [e, Instr.extract]
    have : (⟨us⟩ : Array Value)[i]? = some y := by simpa using hy
    simp only [this]; rfl
  case call c =>
    obtain ⟨callee, args, argTypes⟩ := c
    cases callee <;> try contradiction
    rename_i b
    cases b <;> simp only at h <;> try contradiction
    case cap =>
      split at h <;> try contradiction
      rename_i a ha
      obtain ⟨x, hx, hr⟩ := args_one hρ ha
      obtain ⟨z, h3, h4⟩ := capA_sound (ty := type) h hr
      refine ⟨z, ?_, h4⟩
      simp only [execOp]
      rw [call_builtin rfl, hx]
      exact run_value h3
    case len =>
      split at h <;> try contradiction
      rename_i a ha
      obtain ⟨x, hx, hr⟩ := args_one hρ ha
      obtain ⟨z, h3, h4⟩ := lenA_sound (B := 0) (ty := type) (Or.inr rfl) h hr
      refine ⟨z, ?_, h4⟩
      simp only [execOp]
      rw [call_builtin rfl, hx]
      exact run_value h3
    case max =>
      split at h <;> try contradiction
      rename_i a r ha
      have hl := r_evalL hρ ha
      simp only [RepL] at hl
      obtain ⟨y, ys, hm, hr1, hr2⟩ := hl
      obtain ⟨z, h3, h4⟩ := minA_sound (P := C.P) h hr1 hr2
      refine ⟨z, ?_, h4⟩
      simp only [execOp]
      rw [call_builtin rfl]
      refine run_value ?_
      rw [Builtin.max_]
      have : (args.map ρ').toList = y :: ys := by simpa using hm
      simp only [this]
      simpa using h3
    case min =>
      split at h <;> try contradiction
      rename_i a r ha
      have hl := r_evalL hρ ha
      simp only [RepL] at hl
      obtain ⟨y, ys, hm, hr1, hr2⟩ := hl
      obtain ⟨z, h3, h4⟩ := minA_sound (P := C.P) h hr1 hr2
      refine ⟨z, ?_, h4⟩
      simp only [execOp]
      rw [call_builtin rfl]
      refine run_value ?_
      rw [Builtin.min_]
      have : (args.map ρ').toList = y :: ys := by simpa using hm
      simp only [this]
      simpa using h3
    case unsafeSliceData =>
      split at h <;> try contradiction
      · rename_i ha
        simp only [Option.some.injEq] at h; subst h
        obtain ⟨x, hx, hr⟩ := args_one hρ ha
        simp only [Rep] at hr; subst hr
        refine ⟨.pointer none, ?_, by simp [Rep]⟩
        simp only [execOp]
        rw [call_builtin rfl, hx]
        exact run_value rfl
      · rename_i b off len cap e ha
        obtain ⟨x, hx, hr⟩ := args_one hρ ha
        simp only [Rep] at hr
        obtain ⟨k, c, hk, rfl, hl, hc, hn⟩ := hr
        have hc0 : c ≠ 0 ∧ v = .ptr b off := by
          cases cap with
          | none =>
            simp only at h
            obtain ⟨h1, h2⟩ := cond_none h
            rw [nbeq] at h1
            simp at h1 h2
            exact ⟨by omega, h2.symm⟩
          | some c' =>
            simp only at h
            obtain ⟨h1, h2⟩ := cond_none h
            rw [nbeq] at h1
            simp at h1 h2
            exact ⟨by rw [hc c' rfl]; exact h1, h2.symm⟩
        obtain ⟨hc0, rfl⟩ := hc0
        refine ⟨.pointer (some ⟨k, off, none⟩), ?_, by simp only [Rep]; exact ⟨k, hk, rfl⟩⟩
        simp only [execOp]
        rw [call_builtin rfl, hx]
        refine run_value ?_
        have e : Builtin.unsafeSliceData_ argTypes type #[.slice (some ⟨k, off, none⟩) len c] = (if c ≠ 0 then pure (.pointer (some ⟨k, off, none⟩)) else do
          if (← viewAt k).isSome then pure (.pointer (some ⟨k, off, none⟩)) else pure (.pointer (some ⟨← newObj (.view ⟨k, off, none⟩ (← Go.elemOf type)), 0, none⟩))) := rfl
        rw [e, if_pos hc0]; rfl
end
end Go.AX
end
section
open Go (execOp)
/- AX: operations that look at memory. -/
namespace Go.AX

section
variable {P : Program} {B : Nat} {G : Ghost} {H : AHeap} {w : World}

theorem cell_of_row {k : Nat} {vs : List Value} {ty : TypeId} {fr : Nat × Nat} (h : w.heap[k]? = some (.cells ⟨vs⟩ ty fr)) (o : Nat) : w.cell? ⟨k, o, none⟩ = vs[o]? := by
  unfold World.cell?
  simp only [h, Option.isSome_none, Bool.false_eq_true, if_false, List.getElem?_toArray]

/-- 'n' cells from an address on -/
theorem readAt_sound (hs : Sim B G H w) {p : AV} {n : Nat} {cs : List AV} {x : Value} (h : readAt H p n = some cs) (hx : Rep G w p x) :
    ∃ b off xs, x = .pointer (some ⟨b, off, none⟩) ∧ RepL G w cs xs ∧ xs.length = n ∧ cellsAt w b off xs := by
  unfold readAt at h
  simp only [cut_eq, firsts_eq] at h
  cases p <;> simp only at h <;> try contradiction
  case ptr i off =>
    cases hb : H.get i with
    | none => rw [hb] at h; simp at h
    | some blk =>
      rw [hb] at h
      cases blk <;> simp only at h <;> try contradiction
      rename_i vs ty frz cl
      obtain ⟨hc, h⟩ := cond_some h
      rw [ble_dec, decide_eq_true_iff] at hc
      simp only [Option.some.injEq] at h; subst h
      obtain ⟨k, hk, _, _, xs, fr, h1, h2, h3, _⟩ := hs.blk i _ hb
      simp only [Rep] at hx
      obtain ⟨k', hk', rfl⟩ := hx
      rw [hk] at hk'; cases hk'
      refine ⟨k, off, ((xs.take vs.length).drop off).take n, rfl, (h3.drop off).take n, ?_, ?_⟩
      · simp; omega
      · intro j v hv
        rw [cell_of_row h1]
        simp only [List.getElem?_take, List.getElem?_drop] at hv
        split at hv
        · split at hv
          · exact hv
          · contradiction
        · contradiction
  case lptr vs =>
    obtain ⟨hc, h⟩ := cond_some h
    rw [ble_dec, decide_eq_true_iff] at hc
    simp only [Option.some.injEq] at h; subst h
    simp only [Rep] at hx
    obtain ⟨b, off, xs, rfl, hN, hr, hcs⟩ := hx
    exact ⟨b, off, xs.take n, rfl, hr.take n, by have := hr.length; simp; omega, hcs.take n⟩

theorem run_loadCells_at {b off : Nat} {xs : List Value} (h : cellsAt w b off xs) {n : Nat} (hn : xs.length = n) : (loadCells ⟨b, off, none⟩ n).run P w = .ok xs.toArray w := by
  subst hn
  exact run_loadCells_list w ⟨b, off, none⟩ xs fun j v hv => by rw [add_eq]; exact h j v hv

theorem loadAt_sound (hs : Sim B G H w) {t : TypeId} {p v : AV} {x : Value} (h : loadAt P H t p = some v) (hx : Rep G w p x) : ∃ z, (Instr.loadAt t x).run P w = .ok z w ∧ Rep G w v z := by
  unfold loadAt at h
  cases ha : isAgg P t with
  | none => rw [ha] at h; simp at h
  | some a =>
    cases hn : sizeOf P t with
    | none => rw [ha, hn] at h; cases a <;> simp at h
    | some n =>
      rw [ha, hn] at h
      cases a <;> simp only at h
      · obtain ⟨cs, h1, h2⟩ := bind_some h
        obtain ⟨b, off, xs, rfl, hr, hl, hc⟩ := readAt_sound hs h1 hx
        obtain ⟨y, hy, hry⟩ := hr.get h2
        refine ⟨y, ?_, hry⟩
        rw [Instr.loadAt, run_bind_ok (a := (⟨b, off, none⟩ : Addr)) (w' := w) rfl, loadVar, run_bind_ok (r_agg ha w)]
        simp only [Bool.false_eq_true, if_false]
        have := hc 0 y hy
        simp only [Nat.add_zero] at this
        rw [run_load, this]
      · obtain ⟨cs, h1, rfl⟩ := map_some h
        obtain ⟨b, off, xs, rfl, hr, hl, hc⟩ := readAt_sound hs h1 hx
        refine ⟨.agg xs.toArray, ?_, by simp only [Rep]; exact ⟨xs, rfl, hr⟩⟩
        rw [Instr.loadAt, run_bind_ok (a := (⟨b, off, none⟩ : Addr)) (w' := w) rfl, loadVar, run_bind_ok (r_agg ha w)]
        simp only [if_true]
        rw [run_bind_ok (r_size hn w), run_bind_ok (run_loadCells_at hc hl)]; rfl

/-- the cells of a slice's, a string's first elements -/
theorem firstCells_all (hs : Sim B G H w) {a : AV} {size n m : Nat} {cs : List AV} {x : Value} (h : firstCells H size n a = some cs) (hm : lenOf a = some m) (hn : n ≤ m) (hx : Rep G w a x) :
    ∃ xs : List Value, (∀ m, (Builtin.firstCells size n x).run P { w with drawn := m } = .ok xs.toArray { w with drawn := m }) ∧ RepL G w cs xs := by
  cases a <;> simp only [firstCells, firsts_eq] at h <;> try contradiction
  case slc b off len cap esz =>
    simp only [Rep] at hx
    obtain ⟨k, c, hk, rfl, _⟩ := hx
    obtain ⟨b', off', xs, he, hr, hl, hc⟩ := readAt_sound hs h (x := .pointer (some ⟨k, off, none⟩)) (by simp only [Rep]; exact ⟨k, hk, rfl⟩)
    cases he
    exact ⟨xs, fun m => run_loadCells_at (w := { w with drawn := m }) hc hl, hr⟩
  case lst vs len =>
    obtain ⟨hc0, h⟩ := cond_some h
    rw [ble_dec, decide_eq_true_iff] at hc0
    simp only [Option.some.injEq] at h; subst h
    simp only [Rep] at hx
    obtain ⟨b, off, c, xs, rfl, _, _, hr, hc⟩ := hx
    exact ⟨xs.take (n * size), fun m => run_loadCells_at (w := { w with drawn := m }) (hc.take _) (by have := hr.length; simp; omega), hr.take _⟩
  case snil =>
    simp only [Option.some.injEq] at h; subst h
    simp only [Rep] at hx; subst hx
    exact ⟨[], fun m => rfl, by simp [RepL]⟩
  case emp =>
    simp only [Option.some.injEq] at h; subst h
    simp only [Rep] at hx; obtain ⟨a, rfl⟩ := hx
    simp only [lenOf, Option.some.injEq] at hm
    have : n = 0 := by omega
    subst this
    exact ⟨[], fun m => by simp [Builtin.firstCells, loadCells, loadCellsFrom], by simp [RepL]⟩
  case str s =>
    simp only [Option.some.injEq] at h; subst h
    simp only [Rep] at hx; obtain ⟨bs, rfl, rfl⟩ := hx
    refine ⟨(bs.data.toList.take n).map fun b => .int .u8 b.toNat, fun m => ?_, ?_⟩
    · show Result.ok _ _ = _
      congr 1
      apply Array.ext'
      simp [ByteArray.data_extract, List.extract_eq_take_drop]
    · have : ∀ l : List UInt8, RepL G w ((l.map UInt8.toNat).map fun (b : Nat) => .int .u8 (b : Int)) (l.map fun b => .int .u8 b.toNat) := by
        intro l
        induction l with
        | nil => simp [RepL]
        | cons a l ih => simp only [List.map_cons, RepL]; exact ⟨_, _, rfl, by simp [Rep], ih⟩
      have h2 := this (bs.data.toList.take n)
      rw [List.map_take] at h2
      exact h2

theorem firstCells_sound (hs : Sim B G H w) {a : AV} {size n m : Nat} {cs : List AV} {x : Value} (h : firstCells H size n a = some cs) (hm : lenOf a = some m) (hn : n ≤ m) (hx : Rep G w a x) :
    ∃ xs : List Value, (Builtin.firstCells size n x).run P w = .ok xs.toArray w ∧ RepL G w cs xs := by
  obtain ⟨xs, h1, h2⟩ := firstCells_all (P := P) hs h hm hn hx
  exact ⟨xs, h1 w.drawn, h2⟩

theorem bytesIn_sound : ∀ {cs : List AV} {s : List Nat} {xs : List Value}, bytesIn cs = some s → RepL G w cs xs →
    ∃ ns : List Int, xs = ns.map (Value.int .u8) ∧ s = ns.map fun n => n.toNat % 256
  | [], s, xs, h, hr => by
    simp only [bytesIn, Option.some.injEq] at h; subst h
    simp only [RepL] at hr; subst hr
    exact ⟨[], rfl, rfl⟩
  | c :: cs, s, xs, h, hr => by
    simp only [RepL] at hr
    obtain ⟨y, ys, rfl, hy, hr⟩ := hr
    cases c <;> (try (simp only [bytesIn] at h; contradiction))
    rename_i k n
    cases k <;> (try (simp only [bytesIn] at h; contradiction))
    simp only [bytesIn] at h
    obtain ⟨t, ht, rfl⟩ := map_some h
    simp only [Rep] at hy; subst hy
    obtain ⟨ns, rfl, rfl⟩ := bytesIn_sound ht hr
    exact ⟨n :: ns, rfl, rfl⟩

theorem foldl_push (ns : List Int) : ∀ acc : ByteArray, (ns.foldl (fun (r : ByteArray) n => r.push (UInt8.ofNat n.toNat)) acc).data.toList = acc.data.toList ++ ns.map fun n => UInt8.ofNat n.toNat := by
  induction ns with
  | nil => intro acc; simp
  | cons n ns ih => intro acc; simp only [List.foldl_cons, ih, List.map_cons]; simp [ByteArray.push]

theorem toNat_ofNat_list (ns : List Int) : (ns.map fun n => UInt8.ofNat n.toNat).map UInt8.toNat = ns.map fun n => n.toNat % 256 := by
  rw [List.map_map]
  apply List.map_congr_left
  intro n _
  simp

theorem rowAt_mono {fits : TypeId → Bool} : ∀ (d : Nat) (e : TypeId) (count count' off n : Nat), count ≤ count' → rowAt P fits d e count off n = true → rowAt P fits d e count' off n = true
  | 0, _, _, _, _, _, _, h => by simp [rowAt] at h
  | d + 1, e, count, count', off, n, hc, h => by
    simp only [rowAt] at h ⊢
    by_cases hs : P.cellsOf e = 0
    · simp [hs] at h
    · simp only [hs, if_false, Bool.or_eq_true, Bool.and_eq_true, decide_eq_true_iff] at h ⊢
      rcases h with h | h
      · left; exact ⟨⟨h.1.1, by omega⟩, h.2⟩
      · right; exact ⟨by omega, h.2⟩

theorem liesAt_mono : ∀ (d : Nat) (e : TypeId) (count count' off : Nat) (u : TypeId) (n : Nat), count ≤ count' → liesAt P d e count off u n = true → liesAt P d e count' off u n = true
  | 0, _, _, _, _, _, _, _, h => by simp [liesAt] at h
  | d + 1, e, count, count', off, u, n, hc, h => by
    simp only [liesAt, Bool.or_eq_true] at h ⊢
    rcases h with h | h
    · left; exact rowAt_mono _ _ _ _ _ _ hc h
    · right
      split at h
      · exact liesAt_mono d _ _ _ _ _ _ hc h
      · contradiction

theorem r_shape {k : Nat} {vs : List Value} {ty : TypeId} {fr : Nat × Nat} (h : w.heap[k]? = some (.cells ⟨vs⟩ ty fr)) : (shape k).run P w = .ok (some (ty, vs.length)) w := by
  simp [shape, Sem.run, World.shape?, h]

theorem r_seenAt {k off : Nat} {vs : List Value} {ty : TypeId} {fr : Nat × Nat} (h : w.heap[k]? = some (.cells ⟨vs⟩ ty fr)) : (Conv.seenAt ⟨k, off, none⟩).run P w = .ok ⟨k, off, none⟩ w := by
  have hv : (viewAt k).run P w = .ok none w := by
    rw [viewAt, run_bind_ok (r_shape h)]; rfl
  rw [Conv.seenAt, run_bind_ok hv]; rfl

theorem bytesSome_sound : ∀ {cs : List AV} {xs : List Value}, bytesSome cs = true → RepL G w cs xs → ∃ ns : List Int, xs = ns.map (Value.int .u8)
  | [], xs, _, h => by simp only [RepL] at h; exact ⟨[], by simp [h]⟩
  | c :: cs, xs, h, hr => by
    simp only [RepL] at hr
    obtain ⟨y, ys, rfl, hy, hys⟩ := hr
    cases c <;> (try simp only [bytesSome] at h) <;> try contradiction
    · rename_i k n
      cases k <;> (try simp only [bytesSome] at h) <;> try contradiction
      simp only [Rep] at hy; subst hy
      obtain ⟨ns, rfl⟩ := bytesSome_sound h hys
      exact ⟨n :: ns, rfl⟩
    · rename_i k n
      cases k <;> (try simp only [bytesSome] at h) <;> try contradiction
      simp only [Rep] at hy
      obtain ⟨m, rfl, _⟩ := hy
      obtain ⟨ns, rfl⟩ := bytesSome_sound h hys
      exact ⟨m :: ns, rfl⟩

theorem convR_sound (hs : Sim B G H w) {src dst : TypeId} {a v : AV} {x : Value} (h : convR P H src dst a = some v) (hx : Rep G w a x) :
    ∃ z, (convert src dst x).run P w = .ok z w ∧ Rep G w v z := by
  unfold convR at h
  split at h <;> try contradiction
  · rename_i e hsrc hdst
    split at h <;> try contradiction
    rename_i he
    have hconv : ∀ a l c, (convert src dst (.slice a l c)).run P w = (Conv.bytesToString (.slice a l c)).run P w := fun a l c => run_convert_bytes_string w src dst e a l c hsrc he hdst
    have main : ∀ {cs : List AV} {s : List Nat} {b : Addr} {len c : Nat} {xs : List Value}, (Builtin.firstCells 1 len (.slice (some b) len c)).run P w = .ok xs.toArray w → RepL G w cs xs → bytesIn cs = some s →
        ∃ z, (convert src dst (.slice (some b) len c)).run P w = .ok z w ∧ Rep G w (.str s) z := by
      intro cs s b len c xs h1 hr hb
      obtain ⟨ns, rfl, rfl⟩ := bytesIn_sound hb hr
      rw [hconv]
      have h1' : (loadCells b len).run P w = .ok (ns.map (Value.int .u8)).toArray w := by
        have : (Builtin.firstCells 1 len (.slice (some b) len c)) = loadCells b (len * 1) := rfl
        rw [this, Nat.mul_one] at h1; exact h1
      refine ⟨_, run_bytesToString w b len c ns h1', ?_⟩
      simp only [Rep]
      refine ⟨_, rfl, ?_⟩
      rw [foldl_push]
      simpa using toNat_ofNat_list ns
    cases a <;> simp only at h <;> try contradiction
    case snil =>
      simp only [Option.some.injEq] at h; subst h
      simp only [Rep] at hx; subst hx
      exact ⟨.string .empty, by rw [hconv]; rfl, by simp only [Rep]; exact ⟨_, rfl, rfl⟩⟩
    case emp =>
      simp only [Option.some.injEq] at h; subst h
      simp only [Rep] at hx; obtain ⟨a, rfl⟩ := hx
      exact main (cs := []) (xs := []) (by simp [Builtin.firstCells, loadCells, loadCellsFrom]) (by simp [RepL]) rfl
    case slc b off len cap esz =>
      obtain ⟨h0, h⟩ := cond_some h
      obtain ⟨cs, h1, h⟩ := bind_some h
      obtain ⟨xs, h3, h4⟩ := firstCells_sound (P := P) hs h1 (m := len) rfl (Nat.le_refl _) hx
      simp only [Rep] at hx
      obtain ⟨k, c, _, rfl, _⟩ := hx
      cases h2 : bytesIn cs with
      | some s =>
        rw [h2] at h
        simp only [Option.some.injEq] at h; subst h
        exact main h3 h4 h2
      | none =>
        rw [h2] at h
        obtain ⟨h5, h⟩ := cond_some h
        simp only [Option.some.injEq] at h; subst h
        obtain ⟨ns, rfl⟩ := bytesSome_sound h5 h4
        rw [hconv]
        have h1' : (loadCells ⟨k, off, none⟩ len).run P w = .ok (ns.map (Value.int .u8)).toArray w := by
          have : (Builtin.firstCells 1 len (.slice (some ⟨k, off, none⟩) len c)) = loadCells ⟨k, off, none⟩ (len * 1) := rfl
          rw [this, Nat.mul_one] at h3; exact h3
        exact ⟨_, run_bytesToString w _ len c ns h1', by simp only [Rep]; rfl⟩
    case lst vs len =>
      obtain ⟨cs, h1, h⟩ := bind_some h
      obtain ⟨s, h2, rfl⟩ := map_some h
      obtain ⟨xs, h3, h4⟩ := firstCells_sound (P := P) hs h1 (m := len) rfl (Nat.le_refl _) hx
      simp only [Rep] at hx
      obtain ⟨b, off, c, ys, rfl, _⟩ := hx
      exact main h3 h4 h2
  · rename_i u hsrc hdst
    split at h <;> try contradiction
    rename_i b off n hn
    cases hb : H.get b with
    | none => rw [hb] at h; simp at h
    | some blk =>
      rw [hb] at h
      cases blk <;> simp only at h <;> try contradiction
      rename_i vs ty frz cl
      obtain ⟨hc, h⟩ := cond_some h
      rw [blt_dec, decide_eq_true_iff] at hc
      simp only [Option.some.injEq] at h; subst h
      obtain ⟨k, hk, _, _, xs, fr, h1, h2, _⟩ := hs.blk b _ hb
      have hx' := hx
      simp only [Rep] at hx
      obtain ⟨k', hk', rfl⟩ := hx
      rw [hk] at hk'; cases hk'
      refine ⟨_, ?_, hx'⟩
      rw [convert, run_bind_ok (r_under hsrc w), run_bind_ok (r_under hdst w)]
      show (Conv.unsafePointer src dst (.pointer _)).run P w = _
      rw [Conv.unsafePointer, run_bind_ok (r_under hsrc w), run_bind_ok (r_under hdst w)]
      simp only []
      rw [run_bind_ok (r_seenAt h1)]
      have hcells : (cellsIn k).run P w = .ok (some xs.length) w := by
        rw [cellsIn, run_bind_ok (r_shape h1)]; rfl
      rw [run_bind_ok hcells, run_bind_ok (r_size hn w)]
      have : ¬ (off ≥ xs.length) := by omega
      simp [this, run_pure]
  · rename_i u hsrc hdst
    split at h <;> try contradiction
    rename_i b off n hn
    cases hb : H.get b with
    | none => rw [hb] at h; simp at h
    | some blk =>
      rw [hb] at h
      cases blk <;> simp only at h <;> try contradiction
      rename_i vs ty frz cl
      obtain ⟨hc, h⟩ := cond_some h
      simp only [Option.some.injEq] at h; subst h
      obtain ⟨k, hk, _, _, xs, fr, h1, h2, _⟩ := hs.blk b _ hb
      have hx' := hx
      simp only [Rep] at hx
      obtain ⟨k', hk', rfl⟩ := hx
      rw [hk] at hk'; cases hk'
      refine ⟨_, ?_, hx'⟩
      have hl : liesAt P P.depth ty (xs.length / P.cellsOf ty) off u 1 = true := liesAt_mono _ _ _ _ _ _ _ (Nat.div_le_div_right h2) hc
      have hva : (variablesAt ⟨k, off, none⟩ u 1).run P w = .ok true w := by
        rw [variablesAt, run_bind_ok (a := P) (w' := w) rfl]
        simp only []
        rw [run_bind_ok (r_shape h1)]
        simp only [hl]; rfl
      rw [convert, run_bind_ok (r_under hsrc w), run_bind_ok (r_under hdst w)]
      show (Conv.unsafePointer src dst (.pointer _)).run P w = _
      rw [Conv.unsafePointer, run_bind_ok (r_under hsrc w), run_bind_ok (r_under hdst w)]
      simp only []
      rw [run_bind_ok (r_seenAt h1), run_bind_ok (r_size hn w), run_bind_ok hva]
      simp [run_pure]
  · rename_i hsrc hdst
    cases a <;> simp only at h <;> try contradiction
    simp only [Option.some.injEq] at h; subst h
    have hx' := hx
    simp only [Rep] at hx
    obtain ⟨k', hk', rfl⟩ := hx
    refine ⟨_, ?_, hx'⟩
    rw [convert, run_bind_ok (r_under hsrc w), run_bind_ok (r_under hdst w)]
    show (Conv.unsafePointer src dst (.pointer _)).run P w = _
    rw [Conv.unsafePointer, run_bind_ok (r_under hsrc w), run_bind_ok (r_under hdst w)]; rfl
end
end Go.AX
end
section
open Go (execOp)
/- AX: operations that look at memory: slice expressions, '==', look-ups. -/
namespace Go.AX

section
variable {P : Program} {B : Nat} {G : Ghost} {H : AHeap} {w : World}

theorem r_sliceAt_slice {t e : TypeId} {size : Nat} {a : Option Addr} {len c l h m : Nat} {lo hi mx : Option Value} (hu : P.underlying t = some (.slice e)) (hn : sizeOf P e = some size)
    (hb : (Instr.sliceBounds true len c lo hi mx).run P w = .ok (l, h, m) w) :
    (Instr.sliceAt t (.slice a len c) lo hi mx).run P w = .ok (.slice (if m = l then a else a.map (·.add (l * size))) (h - l) (m - l)) w := by
  rw [Instr.sliceAt, run_bind_ok (r_under hu w)]
  simp only []
  rw [Instr.slice, run_bind_ok (r_under hu w)]
  simp only []
  rw [run_bind_ok hb]
  simp only []
  rw [run_bind_ok (r_size hn w)]; rfl

theorem sliceA_sound (hs : Sim B G H w) {t : TypeId} {a v : AV} {x : Value} {lo hi mx : Option AV} {lo' hi' mx' : Option Value} (ht : ∃ e, P.underlying t = some (.slice e)) (h : sliceA P H t a lo hi mx = some v)
    (hx : Rep G w a x) (h1 : RepOpt G w lo lo') (h2 : RepOpt G w hi hi') (h3 : RepOpt G w mx mx') : ∃ z, (Instr.sliceAt t x lo' hi' mx').run P w = .ok z w ∧ Rep G w v z := by
  obtain ⟨e, hu⟩ := ht
  unfold sliceA at h
  rw [hu] at h
  simp only at h
  cases hn : sizeOf P e with
  | none => rw [hn] at h; simp at h
  | some size =>
    rw [hn] at h
    simp only at h
    cases a <;> (try simp only at h) <;> try contradiction
    case snil =>
      split at h <;> try contradiction
      rename_i r hb
      obtain ⟨l, hh, m⟩ := r
      simp only [Option.some.injEq] at h; subst h
      simp only [Rep] at hx; subst hx
      obtain ⟨e1, e2, e3, e4, _⟩ := r_bounds (P := P) (isSlice := true) h1 h2 h3 hb
      have := e3 (Or.inl (Nat.le_refl _))
      refine ⟨_, r_sliceAt_slice hu hn e1, ?_⟩
      simp only [Rep]
      have : hh - l = 0 := by omega
      have : m - l = 0 := by omega
      simp [*]
    case emp =>
      split at h <;> try contradiction
      rename_i r hb
      obtain ⟨l, hh, m⟩ := r
      simp only [Option.some.injEq] at h; subst h
      simp only [Rep] at hx; obtain ⟨ad, rfl⟩ := hx
      obtain ⟨e1, e2, e3, e4, _⟩ := r_bounds (P := P) (isSlice := true) h1 h2 h3 hb
      have := e3 (Or.inl (Nat.le_refl _))
      refine ⟨_, r_sliceAt_slice hu hn e1, ?_⟩
      simp only [Rep]
      have hl : l = 0 := by omega
      have hm : m = 0 := by omega
      have hh0 : hh = 0 := by omega
      subst hl; subst hm; subst hh0
      exact ⟨ad, by simp⟩
    case slc b off len cap esz =>
      have hx' := hx
      simp only [Rep] at hx
      obtain ⟨k, c, hk, rfl, hlc, hc, hnone⟩ := hx
      cases cap with
      | some c' =>
        simp only at h
        obtain ⟨he, h⟩ := cond_some h
        rw [nbeq, decide_eq_true_iff] at he
        subst he
        have := hc c' rfl; subst this
        split at h <;> try contradiction
        rename_i l hh m hb
        simp only [Option.some.injEq] at h; subst h
        obtain ⟨e1, e2, e3, e4, _⟩ := r_bounds (P := P) (isSlice := true) h1 h2 h3 hb
        refine ⟨_, r_sliceAt_slice hu hn e1, ?_⟩
        simp only [Rep]
        have hhm : hh ≤ m := e3 (Or.inl hlc)
        refine ⟨k, m - l, hk, ?_, by omega, fun c' hc' => by cases hc'; rfl, fun h => nomatch h⟩
        by_cases e : m = l <;> simp [e, add_eq]
      | none =>
        simp only at h
        obtain ⟨he, h⟩ := cond_some h
        rw [nbeq, decide_eq_true_iff] at he
        subst he
        obtain ⟨cells, ty, fr, hrow, hsz⟩ := hnone rfl
        cases mx with
        | none =>
          cases mx' with
          | some _ => exact h3.elim
          | none =>
          simp only at h
          have hmost : len ≤ mostOf H b off len size ∧ mostOf H b off len size ≤ c := by
            unfold mostOf
            cases hb : H.get b with
            | none => exact ⟨Nat.le_refl _, hlc⟩
            | some blk =>
              cases blk <;> simp only <;> try exact ⟨Nat.le_refl _, hlc⟩
              rename_i vs ty' frz cl
              rw [nbeq]
              by_cases h0 : size = 0
              · simp [h0]; exact hlc
              · simp only [h0, decide_false, cond_false]
                obtain ⟨k', hk', _, _, xs, fr', h1', h2', _⟩ := hs.blk b _ hb
                rw [hk] at hk'; cases hk'
                rw [hrow] at h1'
                cases h1'
                refine ⟨Nat.le_max_left _ _, Nat.max_le.2 ⟨hlc, ?_⟩⟩
                rw [Nat.div_le_iff_le_mul_add_pred (by omega)]
                have : xs.length = off + c * size := by simpa using hsz.symm
                have h5 : vs.length ≤ off + c * size := by omega
                have : size * c = c * size := Nat.mul_comm _ _
                omega
          cases hb : bounds len (mostOf H b off len size) lo hi none with
          | none => rw [hb] at h; simp at h
          | some r =>
            obtain ⟨l, hh, m⟩ := r
            rw [hb] at h
            simp only at h
            have hb' := bounds_mono hb hmost.2
            simp only [Option.isNone_none, if_true] at hb'
            obtain ⟨e1, e2, e3, e4, _⟩ := r_bounds (P := P) (isSlice := true) h1 h2 (show RepOpt G w none none from trivial) hb'
            obtain ⟨_, _, f3, f4, f5, _⟩ := r_bounds (P := P) (isSlice := true) h1 h2 (show RepOpt G w none none from trivial) hb
            have hhm := f3 (Or.inl hmost.1)
            have hm := f5 rfl
            refine ⟨_, r_sliceAt_slice hu hn e1, ?_⟩
            rw [blt_dec, nbeq] at h
            by_cases c1 : l < mostOf H b off len size
            · rw [decide_eq_true c1] at h
              simp only [cond_true, Option.some.injEq] at h; subst h
              have : ¬ c = l := by omega
              simp only [Rep, this, if_false]
              refine ⟨k, c - l, hk, by simp [add_eq], by omega, (fun c' hc' => nomatch hc'), fun _ => ⟨cells, ty, fr, hrow, ?_⟩⟩
              rw [← hsz, Nat.add_assoc, ← Nat.add_mul]
              congr 2; omega
            · rw [decide_eq_false c1] at h
              simp only [cond_false] at h
              by_cases c2 : l = 0
              · rw [decide_eq_true c2] at h
                simp only [cond_true, Option.some.injEq] at h; subst h
                subst c2
                simp only [Rep]
                refine ⟨k, c - 0, hk, ?_, by omega, (fun c' hc' => nomatch hc'), fun _ => ⟨cells, ty, fr, hrow, by simpa using hsz⟩⟩
                by_cases e : c = 0 <;> simp [e, add_eq]
              · rw [decide_eq_false c2] at h
                simp only [cond_false, Option.some.injEq] at h; subst h
                simp only [Rep]
                have h0 : hh - l = 0 := by omega
                rw [h0]
                by_cases e : c = l
                · exact ⟨k, off, c - l, [], by simp [e], by omega, fun h => absurd rfl h, rfl, fun j v hv => by simp at hv⟩
                · exact ⟨k, off + l * size, c - l, [], by simp [e, add_eq], by omega, fun h => absurd rfl h, rfl, fun j v hv => by simp at hv⟩
        | some mv =>
          simp only at h
          split at h <;> try contradiction
          rename_i l hh m hb
          simp only [Option.some.injEq] at h; subst h
          have hb' := bounds_mono hb hlc
          simp only [Option.isNone_some, Bool.false_eq_true, if_false] at hb'
          obtain ⟨e1, e2, e3, e4, _⟩ := r_bounds (P := P) (isSlice := true) h1 h2 h3 hb'
          obtain ⟨_, _, f3, f4, _, _⟩ := r_bounds (P := P) (isSlice := true) h1 h2 h3 hb
          have hhm := f3 (Or.inl (Nat.le_refl _))
          refine ⟨_, r_sliceAt_slice hu hn e1, ?_⟩
          simp only [Rep]
          refine ⟨k, m - l, hk, ?_, by omega, fun c' hc' => by cases hc'; rfl, fun h => nomatch h⟩
          by_cases e : m = l <;> simp [e, add_eq]
    case lst vs len =>
      simp only [Rep] at hx
      obtain ⟨b, off, c, xs, rfl, hlc, hN, hr, hcs⟩ := hx
      cases mx with
      | none =>
        cases mx' with
        | some _ => exact h3.elim
        | none =>
        simp only at h
        split at h <;> try contradiction
        rename_i l hh m hb
        obtain ⟨hc0, h⟩ := cond_some h
        rw [ble_dec, decide_eq_true_iff] at hc0
        simp only [Option.some.injEq] at h; subst h
        have hb' := bounds_mono hb hlc
        simp only [Option.isNone_none, if_true] at hb'
        obtain ⟨e1, e2, e3, e4, _⟩ := r_bounds (P := P) (isSlice := true) h1 h2 (show RepOpt G w none none from trivial) hb'
        obtain ⟨_, _, f3, f4, f5, _⟩ := r_bounds (P := P) (isSlice := true) h1 h2 (show RepOpt G w none none from trivial) hb
        have hhm := f3 (Or.inl (Nat.le_refl _))
        refine ⟨_, r_sliceAt_slice hu hn e1, ?_⟩
        simp only [Rep]
        by_cases e : c = l
        · have : hh - l = 0 := by omega
          rw [this]
          refine ⟨b, off, c - l, [], by simp [e], by omega, fun h => absurd (by simp) h, by simp [RepL], fun j v hv => by simp at hv⟩
        · refine ⟨b, off + l * size, c - l, (xs.drop (l * size)).take ((hh - l) * size), by simp [e, add_eq], by omega, fun h0 => hN (by intro e; subst e; simp at h0), (hr.drop _).take _, (hcs.drop _).take _⟩
      | some mv =>
        simp only at h
        split at h <;> try contradiction
        rename_i r hb
        obtain ⟨l, hh, m⟩ := r
        simp only [Option.some.injEq] at h; subst h
        have hb' := bounds_mono (cap' := c) hb (Nat.zero_le _)
        simp only [Option.isNone_some, Bool.false_eq_true, if_false] at hb'
        obtain ⟨e1, e2, e3, e4, _⟩ := r_bounds (P := P) (isSlice := true) h1 h2 h3 hb'
        obtain ⟨_, _, _, f4, _, _⟩ := r_bounds (P := P) (isSlice := true) h1 h2 h3 hb
        have hhi : hi ≠ none := by intro e; subst e; simp [bounds] at hb
        have := e3 (Or.inr hhi)
        have hl : l = 0 := by omega
        have hm : m = 0 := by omega
        have hh0 : hh = 0 := by omega
        subst hl; subst hm; subst hh0
        refine ⟨_, r_sliceAt_slice hu hn e1, ?_⟩
        simp only [Rep]
        exact ⟨⟨b, off, none⟩, by simp⟩
end
end Go.AX
end
section
open Go (execOp)
/- AX: '==', look-ups: operations that look at memory. -/
namespace Go.AX

section
variable {P : Program} {B : Nat} {G : Ghost} {H : AHeap} {w : World}

theorem cleanRow_sound (hs : Sim B G H w) {b k : Nat} (h : cleanRow H b = true) (hk : G.β b = some k) :
    (∃ blk, H.get b = some blk) ∧ (∀ off, (frozen ⟨k, off, none⟩).run P w = .ok false w) ∧ (viewAt k).run P w = .ok none w ∧ ∃ ty n, (shape k).run P w = .ok (some (ty, n)) w := by
  unfold cleanRow at h
  cases hb : H.get b with
  | none => rw [hb] at h; simp at h
  | some blk =>
    rw [hb] at h
    cases blk <;> simp only at h <;> try contradiction
    rename_i vs ty frz cl
    subst h
    obtain ⟨k', hk', _, _, xs, fr, h1, h2, h3, h4, h5⟩ := hs.blk b _ hb
    rw [hk] at hk'; cases hk'
    have := h5 rfl; subst this
    refine ⟨⟨_, rfl⟩, fun off => ?_, ?_, ty, xs.length, r_shape h1⟩
    · show Result.ok (w.frozen? ⟨k, off, none⟩) w = _
      congr 1
      unfold World.frozen?
      simp [h1]
    · rw [viewAt, run_bind_ok (r_shape h1)]; rfl

theorem sameAddr_other (hs : Sim B G H w) {b b' o o' k k' : Nat} (hne : b ≠ b') (hc : cleanRow H b = true) (hc' : cleanRow H b' = true) (hk : G.β b = some k) (hk' : G.β b' = some k') :
    (sameAddr ⟨k, o, none⟩ ⟨k', o', none⟩).run P w = .ok false w := by
  obtain ⟨⟨blk, hb⟩, f1, v1, ty1, n1, s1⟩ := cleanRow_sound (P := P) hs hc hk
  obtain ⟨⟨blk', hb'⟩, f2, v2, ty2, n2, s2⟩ := cleanRow_sound (P := P) hs hc' hk'
  have hkk : k ≠ k' := fun e => hne (hs.inj b b' blk blk' k hb hb' hk (e ▸ hk'))
  have hkk' : (k == k') = false := by simpa using hkk
  have nv1 : (noView ⟨k, o, none⟩).run P w = .ok () w := by rw [noView, run_bind_ok v1]; rfl
  have nv2 : (noView ⟨k', o', none⟩).run P w = .ok () w := by rw [noView, run_bind_ok v2]; rfl
  have st1 : (stringish ⟨k, o, none⟩).run P w = .ok false w := by
    rw [stringish, run_bind_ok (f1 o)]
    simp only [Bool.false_eq_true, if_false]
    try rw [run_bind_ok (a := ()) (w' := w) rfl]
    rw [run_bind_ok s1]; exact f1 n1
  have st2 : (stringish ⟨k', o', none⟩).run P w = .ok false w := by
    rw [stringish, run_bind_ok (f2 o')]
    simp only [Bool.false_eq_true, if_false]
    try rw [run_bind_ok (a := ()) (w' := w) rfl]
    rw [run_bind_ok s2]; exact f2 n2
  have mb : (mayBeOne ⟨k, o, none⟩ ⟨k', o', none⟩).run P w = .ok false w := by
    rw [mayBeOne]
    simp only [Sem.run_bind, st1, st2, s1, s2, Result.andThen_ok, Sem.run_pure]
    simp
  rw [sameAddr]
  simp only [hkk', Bool.false_eq_true, if_false, Sem.run_bind, f1, f2, nv1, nv2, mb, Result.andThen_ok, Sem.run_pure, Bool.false_and]

theorem sameAddr_same {k o o' : Nat} : (sameAddr ⟨k, o, none⟩ ⟨k, o', none⟩).run P w = .ok (o.beq o') w := by
  rw [sameAddr, nbeq]
  simp only [beq_self_eq_true, if_true]
  show Result.ok ((⟨k, o, none⟩ : Addr) == ⟨k, o', none⟩) w = _
  congr 1
  by_cases e : o = o'
  · subst e; simp
  · have : (⟨k, o, none⟩ : Addr) ≠ ⟨k, o', none⟩ := by intro h; cases h; exact e rfl
    simp [e]

theorem sameA (hs : Sim B G H w) {b b' o o' k k' : Nat} {r : Bool} (h : (bif Nat.beq b b' then some (Nat.beq o o') else bif cleanRow H b && cleanRow H b' then some false else none) = some r)
    (hk : G.β b = some k) (hk' : G.β b' = some k') : (sameAddr ⟨k, o, none⟩ ⟨k', o', none⟩).run P w = .ok r w := by
  rw [nbeq] at h
  by_cases e : b = b'
  · rw [decide_eq_true e] at h
    simp only [cond_true, Option.some.injEq] at h; subst h
    subst e
    rw [hk] at hk'; cases hk'
    exact sameAddr_same
  · rw [decide_eq_false e] at h
    simp only [cond_false] at h
    obtain ⟨hc, h⟩ := cond_some h
    simp only [Option.some.injEq] at h; subst h
    simp only [Bool.and_eq_true] at hc
    exact sameAddr_other hs e hc.1 hc.2 hk hk'

theorem eqFields_sound {xs ys : List AV} {us vs : List Value} {d : Nat} {eq : TypeId → AV → AV → Option Bool}
    (heq : ∀ t a b r x y, eq t a b = some r → Rep G w a x → Rep G w b y → (Op.equalIn d t x y).run P w = .ok r w) (hx : RepL G w xs us) (hy : RepL G w ys vs) :
    ∀ (fs : List Field) (r : Bool), eqFields P eq xs ys fs = some r → (Op.eqFields d ⟨us⟩ ⟨vs⟩ fs).run P w = .ok r w
  | [], r, h => by simp only [eqFields, Option.some.injEq] at h; subst h; rfl
  | f :: fs, r, h => by
    simp only [eqFields] at h
    rw [Op.eqFields]
    by_cases hn : f.name = "_"
    · have : (f.name == "_") = true := by simpa using hn
      rw [this] at h
      simp only [cond_true] at h
      rw [if_neg (by simpa using hn)]
      exact eqFields_sound heq hx hy fs r h
    · have : (f.name == "_") = false := by simpa using hn
      rw [this] at h
      simp only [cond_false] at h
      rw [if_pos hn]
      split at h <;> try contradiction
      rename_i a b ha hb
      obtain ⟨x, h1, h2⟩ := r_part ha hx
      obtain ⟨y, h3, h4⟩ := r_part hb hy
      rw [run_bind_ok h1, run_bind_ok h3]
      split at h
      · rename_i he
        rw [run_bind_ok (heq _ _ _ _ _ _ he h2 h4)]
        simp only [Bool.not_true, Bool.false_eq_true, if_false]
        exact eqFields_sound heq hx hy fs r h
      · rename_i hne
        cases r with
        | true => exact absurd h hne
        | false =>
          rw [run_bind_ok (heq _ _ _ _ _ _ h h2 h4)]; rfl

set_option maxHeartbeats 1000000 in
theorem equalA_sound (hs : Sim B G H w) : ∀ (d D : Nat) (t : TypeId) (a b : AV) (r : Bool) (x y : Value), d ≤ D → equalA P H d t a b = some r → Rep G w a x → Rep G w b y → (Op.equalIn D t x y).run P w = .ok r w
  | 0, _, _, _, _, _, _, _, _, h, _, _ => by simp [equalA] at h
  | d + 1, 0, _, _, _, _, _, _, hd, _, _, _ => by omega
  | d + 1, D + 1, t, a, b, r, x, y, hd, h, hx, hy => by
    unfold equalA at h
    cases hu : P.underlying t with
    | none => rw [hu] at h; simp at h
    | some desc =>
      rw [hu] at h
      cases desc with
      | struct fs =>
        simp only at h
        cases a <;> cases b <;> (try simp only at h) <;> try contradiction
        obtain ⟨h0, h⟩ := cond_none h
        simp only [Rep] at hx hy
        obtain ⟨us, rfl, hx⟩ := hx
        obtain ⟨vs, rfl, hy⟩ := hy
        have hf : P.fieldsOf t = fs := by simp [Program.fieldsOf, hu]
        rw [run_equalIn_struct w D t ⟨us⟩ ⟨vs⟩ (by rw [hf]; exact hu) h0, hf]
        exact eqFields_sound (fun t a b r x y he hx hy => equalA_sound hs d D t a b r x y (by omega) he hx hy) hx hy fs.toList r h
      | bool =>
        simp only at h
        cases a <;> cases b <;> (try simp only [Option.some.injEq] at h) <;> try contradiction
        subst h
        simp only [Rep] at hx hy; subst hx; subst hy
        rw [Op.equalIn, run_bind_ok (r_under hu w)]; rfl
      | int k =>
        simp only at h
        cases a <;> cases b <;> (try simp only at h) <;> try contradiction
        obtain ⟨h0, h⟩ := cond_some h
        simp only [Option.some.injEq, decide_eq_true_iff] at h h0; subst h; subst h0
        simp only [Rep] at hx hy; subst hx; subst hy
        rw [Op.equalIn, run_bind_ok (r_under hu w)]
        simp only [if_true]; rfl
      | string =>
        simp only at h
        cases a <;> cases b <;> (try simp only [Option.some.injEq] at h) <;> try contradiction
        subst h
        simp only [Rep] at hx hy
        obtain ⟨u, rfl, rfl⟩ := hx
        obtain ⟨v, rfl, rfl⟩ := hy
        rw [Op.equalIn, run_bind_ok (r_under hu w), natsBeq_bytes]
        show Result.ok (u == v) w = _
        rw [beq_toListBytes, toList_data, toList_data]
      | pointer e =>
        simp only at h
        cases a <;> cases b <;> (try simp only [Option.some.injEq] at h) <;> try contradiction
        · subst h
          simp only [Rep] at hx hy; subst hx; subst hy
          rw [Op.equalIn, run_bind_ok (r_under hu w)]; rfl
        · subst h
          simp only [Rep] at hx hy; subst hx; obtain ⟨k, _, rfl⟩ := hy
          rw [Op.equalIn, run_bind_ok (r_under hu w)]; rfl
        · subst h
          simp only [Rep] at hx hy; subst hx; obtain ⟨k, o, vs, rfl, _⟩ := hy
          rw [Op.equalIn, run_bind_ok (r_under hu w)]; rfl
        · subst h
          simp only [Rep] at hx hy; subst hy; obtain ⟨k, _, rfl⟩ := hx
          rw [Op.equalIn, run_bind_ok (r_under hu w)]; rfl
        · split at h <;> try contradiction
          rename_i n hn
          simp only [Rep] at hx hy
          obtain ⟨k, hk, rfl⟩ := hx
          obtain ⟨k', hk', rfl⟩ := hy
          rw [Op.equalIn, run_bind_ok (r_under hu w)]
          simp only []
          rw [run_bind_ok (r_size hn w)]
          simp only [ne_eq, Nat.add_eq_zero_iff, Nat.succ_ne_self, and_false, not_false_eq_true, if_true, Nat.one_ne_zero]
          exact sameA hs h hk hk'
        · subst h
          simp only [Rep] at hx hy; subst hy; obtain ⟨k, o, vs, rfl, _⟩ := hx
          rw [Op.equalIn, run_bind_ok (r_under hu w)]; rfl
      | unsafePointer =>
        simp only at h
        cases a <;> cases b <;> (try simp only [Option.some.injEq] at h) <;> try contradiction
        · subst h
          simp only [Rep] at hx hy; subst hx; subst hy
          rw [Op.equalIn, run_bind_ok (r_under hu w)]; rfl
        · subst h
          simp only [Rep] at hx hy; subst hx; obtain ⟨k, _, rfl⟩ := hy
          rw [Op.equalIn, run_bind_ok (r_under hu w)]; rfl
        · subst h
          simp only [Rep] at hx hy; subst hy; obtain ⟨k, _, rfl⟩ := hx
          rw [Op.equalIn, run_bind_ok (r_under hu w)]; rfl
        · simp only [Rep] at hx hy
          obtain ⟨k, hk, rfl⟩ := hx
          obtain ⟨k', hk', rfl⟩ := hy
          rw [Op.equalIn, run_bind_ok (r_under hu w)]
          exact sameA hs h hk hk'
      | interface ms =>
        simp only at h
        cases a <;> cases b <;> (try simp only [Option.some.injEq] at h) <;> try contradiction
        · subst h
          simp only [Rep] at hx hy; subst hx; subst hy
          rw [Op.equalIn, run_bind_ok (r_under hu w)]; rfl
        · subst h
          simp only [Rep] at hx hy; subst hx; obtain ⟨_, rfl, _⟩ := hy
          rw [Op.equalIn, run_bind_ok (r_under hu w)]; rfl
        · subst h
          simp only [Rep] at hx hy; subst hy; obtain ⟨_, rfl, _⟩ := hx
          rw [Op.equalIn, run_bind_ok (r_under hu w)]; rfl
        · rename_i tx vx ty vy
          simp only [Rep] at hx hy
          obtain ⟨x', rfl, hx⟩ := hx
          obtain ⟨y', rfl, hy⟩ := hy
          simp only [nbeq] at h
          rw [Op.equalIn, run_bind_ok (r_under hu w)]
          simp only []
          by_cases e : tx = ty
          · subst e
            simp only [decide_true, Bool.not_true, cond_false] at h
            simp only [ne_eq, not_true_eq_false, if_false]
            split at h <;> try contradiction
            rename_i i hi
            obtain ⟨hc, h⟩ := cond_some h
            rw [run_bind_ok (r_info hi w)]
            simp only [hc, Bool.not_true, Bool.false_eq_true, if_false]
            try rw [run_bind_ok (a := ()) (w' := w) rfl]
            exact equalA_sound hs d D tx vx vy r x' y' (by omega) h hx hy
          · simp only [e, decide_false, Bool.not_false, cond_true, Option.some.injEq] at h; subst h
            simp only [ne_eq, e, not_false_eq_true, if_true]; rfl
      | slice e =>
        simp only at h
        cases a <;> cases b <;> (try simp only [Option.some.injEq] at h) <;> (try contradiction) <;> subst h <;> simp only [Rep] at hx hy
        · subst hx; subst hy; rw [Op.equalIn, run_bind_ok (r_under hu w)]; rfl
        · subst hx; obtain ⟨_, rfl⟩ := hy; rw [Op.equalIn, run_bind_ok (r_under hu w)]; rfl
        · subst hx; obtain ⟨_, _, _, rfl, _⟩ := hy; rw [Op.equalIn, run_bind_ok (r_under hu w)]; rfl
        · subst hx; obtain ⟨_, _, _, _, rfl, _⟩ := hy; rw [Op.equalIn, run_bind_ok (r_under hu w)]; rfl
        · subst hy; obtain ⟨_, rfl⟩ := hx; rw [Op.equalIn, run_bind_ok (r_under hu w)]; rfl
        · subst hy; obtain ⟨_, _, _, rfl, _⟩ := hx; rw [Op.equalIn, run_bind_ok (r_under hu w)]; rfl
        · subst hy; obtain ⟨_, _, _, _, rfl, _⟩ := hx; rw [Op.equalIn, run_bind_ok (r_under hu w)]; rfl
      | map k e =>
        simp only at h
        cases a <;> cases b <;> (try simp only [Option.some.injEq] at h) <;> (try contradiction) <;> subst h <;> simp only [Rep] at hx hy
        · subst hx; subst hy; rw [Op.equalIn, run_bind_ok (r_under hu w)]; rfl
        · subst hx; obtain ⟨_, _, rfl⟩ := hy; rw [Op.equalIn, run_bind_ok (r_under hu w)]; rfl
        · subst hy; obtain ⟨_, _, rfl⟩ := hx; rw [Op.equalIn, run_bind_ok (r_under hu w)]; rfl
      | func ps rs vv =>
        simp only at h
        cases a <;> cases b <;> (try simp only [Option.some.injEq] at h) <;> (try contradiction) <;> subst h <;> simp only [Rep] at hx hy
        · subst hx; subst hy; rw [Op.equalIn, run_bind_ok (r_under hu w)]; rfl
        · subst hx; obtain ⟨_, _, rfl, _⟩ := hy; rw [Op.equalIn, run_bind_ok (r_under hu w)]; rfl
        · subst hy; obtain ⟨_, _, rfl, _⟩ := hx; rw [Op.equalIn, run_bind_ok (r_under hu w)]; rfl
      | _ => simp only at h; contradiction
end
end Go.AX
end
section
open Go (execOp)
/- AX: look-ups; all operations that look at memory. -/
namespace Go.AX

section
variable {P : Program} {B : Nat} {G : Ghost} {H : AHeap} {w : World}

theorem forIn_unit {fs : List Field} {g : Field → PUnit → Sem (ForInStep PUnit)} (h : ∀ x ∈ fs, (g x PUnit.unit).run P w = .ok (.yield PUnit.unit) w) :
    (forIn fs PUnit.unit g : Sem PUnit).run P w = .ok PUnit.unit w := by
  induction fs with
  | nil => simp
  | cons x fs ih =>
    simp only [List.forIn_cons]
    have := h x (by simp)
    simp only [Sem.run_bind, this, Result.andThen_ok]
    exact ih fun y hy => h y (by simp [hy])

theorem checkKey_sound : ∀ (d D : Nat) (t : TypeId) (v : AV) (x : Value) (empty : Bool), d ≤ D → keyGood P d t v = true → Rep G w v x → (Instr.checkKey empty D t x).run P w = .ok () w
  | 0, _, _, _, _, _, _, h, _ => by simp [keyGood] at h
  | d + 1, 0, _, _, _, _, hd, _, _ => by omega
  | d + 1, D + 1, t, v, x, empty, hd, h, hx => by
    rw [Instr.checkKey]
    unfold keyGood at h
    cases hu : P.underlying t with
    | none => rw [hu] at h; simp at h
    | some desc =>
      rw [hu] at h
      rw [run_bind_ok (r_under hu w)]
      cases desc <;> simp only at h <;> try contradiction
      case bool => cases x <;> rfl
      case int => cases x <;> rfl
      case string => cases x <;> rfl
      case struct fs =>
        cases v <;> (try simp only at h) <;> try contradiction
        rename_i cs
        simp only [Rep] at hx
        obtain ⟨vs, rfl, hr⟩ := hx
        try simp only []
        rw [← Array.forIn_toList]
        have hall := List.all_eq_true.1 h
        rw [run_bind_ok (forIn_unit (P := P) (w := w) (fs := fs.toList) ?_)]
        · rfl
        · intro f hf
          have hff := hall f hf
          by_cases hn : f.name = "_"
          · simp [hn]
          · rw [if_pos hn]
            have hb : (f.name == "_") = false := by simpa using hn
            rw [hb, Bool.false_or] at hff
            split at hff <;> try contradiction
            rename_i u hu'
            obtain ⟨y, h1, h2⟩ := r_part hu' hr
            rw [run_bind_ok h1, run_bind_ok (checkKey_sound d D f.type u y empty (by omega) hff h2)]; rfl

theorem sameNow_run {kt : TypeId} {d : TypeDesc} {x y : Value} {b : Bool} (hu : P.underlying kt = some d) (h : Instr.sameNow d x y = some b) (D : Nat) : (Op.equalIn (D + 1) kt x y).run P w = .ok b w := by
  rw [Op.equalIn, run_bind_ok (r_under hu w)]
  unfold Instr.sameNow at h
  split at h
  · rename_i k a k' b'
    split at h
    · rename_i e
      simp only [Option.some.injEq] at h; subst h; subst e
      simp only [if_true]; rfl
    · contradiction
  · simp only [Option.some.injEq] at h; subst h
    rename_i a b'
    show Result.ok (a == b') w = _
    rfl
  · simp only [Option.some.injEq] at h; subst h; rfl
  · contradiction

/-- what a look-up finds -/
def RepF (G : Ghost) (w : World) : Option (Nat × AV) → Option (Nat × Value) → Prop
  | none, none => True
  | some (i, v), some (j, x) => i = j ∧ Rep G w v x
  | _, _ => False

theorem findAsking_sound (hs : Sim B G H w) {kt : TypeId} {k : AV} {x : Value} (hk : Rep G w k x) : ∀ {es : List (AV × AV × Nat)} {ces : List MapEntry} {i : Nat} {r : Option (Nat × AV)},
    findA (equalA P H 100 kt) k es i = some r → RepE G w es ces → ∃ r', (Instr.findAsking kt x ces i).run P w = .ok r' w ∧ RepF G w r r'
  | [], ces, i, r, h, he => by
    simp only [findA, Option.some.injEq] at h; subst h
    simp only [RepE] at he; subst he
    exact ⟨none, rfl, trivial⟩
  | (key, v, n) :: es, ces, i, r, h, he => by
    simp only [RepE] at he
    obtain ⟨e, es', rfl, hkey, hv, _, he⟩ := he
    simp only [findA] at h
    rw [Instr.findAsking]
    split at h <;> try contradiction
    · rename_i hb
      simp only [Option.some.injEq] at h; subst h
      have : (Op.equal kt x e.key).run P w = .ok true w := equalA_sound hs 100 Op.maxDepth kt k key true x e.key (by decide) hb hk hkey
      rw [run_bind_ok this]
      exact ⟨some (i, e.val), rfl, rfl, hv⟩
    · rename_i hb
      have : (Op.equal kt x e.key).run P w = .ok false w := equalA_sound hs 100 Op.maxDepth kt k key false x e.key (by decide) hb hk hkey
      rw [run_bind_ok this]
      simp only [Bool.false_eq_true, if_false]
      exact findAsking_sound hs hk h he

theorem findNow_sound (hs : Sim B G H w) {kt : TypeId} {d : TypeDesc} (hu : P.underlying kt = some d) {k : AV} {x : Value} (hk : Rep G w k x) : ∀ {es : List (AV × AV × Nat)} {ces : List MapEntry} {i : Nat} {r : Option (Nat × AV)} {r' : Option (Nat × Value)},
    findA (equalA P H 100 kt) k es i = some r → RepE G w es ces → Instr.findNow d x ces i = some r' → RepF G w r r'
  | [], ces, i, r, r', h, he, hn => by
    simp only [findA, Option.some.injEq] at h; subst h
    simp only [RepE] at he; subst he
    simp only [Instr.findNow, Option.some.injEq] at hn; subst hn
    trivial
  | (key, v, n) :: es, ces, i, r, r', h, he, hn => by
    simp only [RepE] at he
    obtain ⟨e, es', rfl, hkey, hv, _, he⟩ := he
    simp only [findA] at h
    simp only [Instr.findNow] at hn
    cases hb : equalA P H 100 kt k key with
    | none => rw [hb] at h; simp at h
    | some b =>
      have h1 : (Op.equal kt x e.key).run P w = .ok b w := equalA_sound hs 100 Op.maxDepth kt k key b x e.key (by decide) hb hk hkey
      cases hsn : Instr.sameNow d x e.key with
      | none => rw [hsn] at hn; simp at hn
      | some b' =>
        have h2 : (Op.equal kt x e.key).run P w = .ok b' w := sameNow_run hu hsn 9999
        rw [h1] at h2
        have hbb : b = b' := by injection h2
        subst hbb
        rw [hb] at h; rw [hsn] at hn
        cases b
        · simp only at h hn; exact findNow_sound hs hu hk h he hn
        · simp only [Option.some.injEq] at h hn; subst h; subst hn; exact ⟨rfl, hv⟩

theorem findKey_sound (hs : Sim B G H w) {kt : TypeId} {k : AV} {x : Value} (hk : Rep G w k x) {es : List (AV × AV × Nat)} {ces : List MapEntry} {r : Option (Nat × AV)} (hg : keyGood P 10 kt k = true)
    (h : findA (equalA P H 100 kt) k es 0 = some r) (he : RepE G w es ces) : ∃ r', (Instr.findKey kt x ces).run P w = .ok r' w ∧ RepF G w r r' := by
  cases hu : P.underlying kt with
  | none => simp [keyGood, hu] at hg
  | some d =>
    cases hn : Instr.findNow d x ces 0 with
    | some r' =>
      refine ⟨r', ?_, findNow_sound hs hu hk h he hn⟩
      rw [Instr.findKey, run_bind_ok (r_under hu w)]
      simp only [hn]; rfl
    | none =>
      obtain ⟨r', h1, h2⟩ := findAsking_sound hs hk h he
      refine ⟨r', ?_, h2⟩
      rw [Instr.findKey, run_bind_ok (r_under hu w)]
      simp only [hn]
      exact h1

theorem r_mapType {t k e : TypeId} (h : mapTypeOf P t = some (k, e)) : P.underlying t = some (.map k e) := by
  unfold mapTypeOf at h
  split at h <;> simp_all

theorem r_getMap (hs : Sim B G H w) {b : Nat} {es : List (AV × AV × Nat)} {clock : Nat} (hb : H.get b = some (.map es clock)) {k : Nat} (hk : G.β b = some k) :
    ∃ ces : List MapEntry, w.heap[k]? = some (.map ⟨ces⟩ clock) ∧ (getObj k).run P w = .ok (.map ⟨ces⟩ clock) w ∧ RepE G w es ces := by
  obtain ⟨k', hk', _, _, ces, h1, h2⟩ := hs.blk b _ hb
  rw [hk] at hk'; cases hk'
  exact ⟨ces, h1, by simp [getObj, Sem.run, h1], h2⟩

theorem lookupA_sound (hs : Sim B G H w) {t : TypeId} {m k v : AV} {ok : Bool} {x y : Value} (h : lookupA P H t m k ok = some v) (hm : Rep G w m x) (hk : Rep G w k y) :
    ∃ z, (Instr.lookup t x y ok).run P w = .ok z w ∧ Rep G w v z := by
  unfold lookupA at h
  cases hmt : mapTypeOf P t with
  | none => rw [hmt] at h; simp at h
  | some ke =>
    obtain ⟨kt, et⟩ := ke
    rw [hmt] at h
    simp only at h
    have hg : keyGood P 10 kt k = true := by simpa using (cond_none h).1
    replace h := (cond_none h).2
    have hu := r_mapType hmt
    have fin : ∀ {es : List (AV × AV × Nat)} {ces : List MapEntry}, RepE G w es ces →
        (match findA (equalA P H 100 kt) k es 0, zeroOf P et with
         | some (some (_, v)), _ => some (bif ok then AV.tuple [v, .bool true] else v)
         | some none, some z => some (bif ok then AV.tuple [z, .bool false] else z)
         | _, _ => none) = some v →
        ∃ z, (do
          Instr.checkKey (⟨ces⟩ : Array MapEntry).isEmpty 10000 kt y
          let (v, ok') ← match ← Instr.findKey kt y (⟨ces⟩ : Array MapEntry).toList with
            | some (_, v) => pure (v, true)
            | none => pure (← zeroValue et, false)
          pure (if ok then .tuple #[v, .bool ok'] else v) : Sem Value).run P w = .ok z w ∧ Rep G w v z := by
      intro es ces he hf
      rw [run_bind_ok (checkKey_sound 10 10000 kt k y _ (by decide) hg hk)]
      have two : ∀ {u : AV} {z : Value} {f : Bool}, Rep G w u z → Rep G w (bif ok then AV.tuple [u, .bool f] else u) (if ok then .tuple #[z, .bool f] else z) := by
        intro u z f hu
        cases ok
        · simpa using hu
        · simp only [cond_true, if_true, Rep]
          exact ⟨[z, .bool f], rfl, by simp only [RepL]; exact ⟨z, _, rfl, hu, _, _, rfl, by simp [Rep], rfl⟩⟩
      split at hf <;> try contradiction
      · rename_i i u hfa
        simp only [Option.some.injEq] at hf; subst hf
        obtain ⟨r', h1, h2⟩ := findKey_sound hs hk hg hfa he
        cases r' with
        | none => exact h2.elim
        | some r' =>
          obtain ⟨j, z⟩ := r'
          refine ⟨_, ?_, two h2.2⟩
          simp only []
          rw [run_bind_ok h1]; rfl
      · rename_i z hfa hz
        simp only [Option.some.injEq] at hf; subst hf
        obtain ⟨r', h1, h2⟩ := findKey_sound hs hk hg hfa he
        obtain ⟨zz, h3, h4, _⟩ := r_zero_rep (G := G) hz w
        cases r' with
        | some r' => exact h2.elim
        | none =>
          refine ⟨_, ?_, two h4⟩
          simp only []
          rw [run_bind_ok h1]
          simp only []
          rw [run_bind_ok h3]; rfl
    rw [Instr.lookup, run_bind_ok (r_under hu w)]
    simp only []
    cases m <;> simp only at h <;> try contradiction
    case nmap =>
      simp only [Rep] at hm; subst hm
      obtain ⟨z, h1, h2⟩ := fin (es := []) (ces := []) (by simp [RepE]) h
      refine ⟨z, ?_, h2⟩
      simp only []
      rw [run_bind_ok (a := (#[] : Array MapEntry)) (w' := w) rfl]
      exact h1
    case map b =>
      cases hb : H.get b with
      | none => rw [hb] at h; simp at h
      | some blk =>
        rw [hb] at h
        cases blk <;> simp only at h <;> try contradiction
        rename_i es clock
        simp only [Rep] at hm
        obtain ⟨kb, hkb, rfl⟩ := hm
        obtain ⟨ces, _, hg', he⟩ := r_getMap (P := P) hs hb hkb
        obtain ⟨z, h1, h2⟩ := fin he h
        refine ⟨z, ?_, h2⟩
        simp only []
        rw [run_bind_ok hg']
        exact h1
end
end Go.AX
end
section
open Go (execOp)
/- AX: kind 1, kind 3. -/
namespace Go.AX

section
variable {C : Cfg} {B : Nat} {G : Ghost} {H : AHeap} {w : World}

theorem oneOf_sound {a : AV} {x : Value} (h : oneOf a = true) (hx : Rep G w a x) : (∀ u, x ≠ .agg u) ∧ x ≠ .nilIface := by
  cases a <;> simp only [oneOf] at h <;> (try contradiction) <;> simp only [Rep] at hx
  case bool => subst hx; simp
  case int => subst hx; simp
  case str => obtain ⟨_, rfl, _⟩ := hx; simp
  case nilp => subst hx; simp
  case ptr => obtain ⟨_, _, rfl⟩ := hx; simp
  case lptr => obtain ⟨_, _, _, rfl, _⟩ := hx; simp
  case snil => subst hx; simp
  case emp => obtain ⟨_, rfl⟩ := hx; simp
  case slc => obtain ⟨_, _, _, rfl, _⟩ := hx; simp
  case lst => obtain ⟨_, _, _, _, rfl, _⟩ := hx; simp
  case nmap => subst hx; simp
  case map => obtain ⟨_, _, rfl⟩ := hx; simp
  case nilFunc => subst hx; simp
  case func => obtain ⟨_, _, rfl, _⟩ := hx; simp
  case iface => obtain ⟨_, rfl, _⟩ := hx; simp

/-- what the model asks ahead of '==' of two structs -/
def aggGuard (t : TypeId) (us vs : List Value) : Sem Unit := do
  if !(← program).eqGuardType (← program).depth t then return
  if ← Op.eqGuardIn Op.maxDepth t (.agg ⟨us⟩) (.agg ⟨vs⟩) then unsupported (.noEntry "binop/eql: two nil values of an interface type with methods, in a part of a struct or an array")

theorem eqA_guard {op : BinOp} {t : TypeId} {ox oy : Operand} {a b : AV} {x y : Value} {r : Bool} (h : eqA C.P H t ox oy a b = some r) (hx : Rep G w a x) (hy : Rep G w b y) :
    (eqGuard op t ox oy x y).run C.P w = .ok () w ∧ equalA C.P H 100 t a b = some r := by
  have plain : (∀ u v, ¬ (x = .agg u ∧ y = .agg v)) → ¬ (x = .nilIface ∧ y = .nilIface) → (eqGuard op t ox oy x y).run C.P w = .ok () w := by
    intro h1 h2
    unfold eqGuard
    cases op <;> try rfl
    all_goals
      cases x <;> cases y <;> first | rfl | exact absurd ⟨rfl, rfl⟩ h2 | exact absurd ⟨rfl, rfl⟩ (h1 _ _)
  unfold eqA at h
  split at h
  · -- both nil
    have hc := (cond_some h).1
    replace h := (cond_some h).2
    simp only [Rep] at hx hy; subst hx; subst hy
    refine ⟨?_, h⟩
    clear h plain
    cases ox <;> cases oy <;> simp only [isConst, Bool.or_false, Bool.or_true, Bool.false_eq_true] at hc <;> cases op <;> rfl
  · -- structs
    rename_i xs ys
    have hc := (cond_none h).1
    replace h := (cond_none h).2
    simp only [Rep] at hx hy
    obtain ⟨us, rfl, _⟩ := hx
    obtain ⟨vs, rfl, _⟩ := hy
    refine ⟨?_, h⟩
    have : ∀ op, (eqGuard op t ox oy (.agg ⟨us⟩) (.agg ⟨vs⟩)).run C.P w = .ok () w ∨ (eqGuard op t ox oy (.agg ⟨us⟩) (.agg ⟨vs⟩)).run C.P w = (aggGuard t us vs).run C.P w := by
      intro op; cases op <;> first | exact .inl rfl | exact .inr rfl
    rcases this op with h1 | h1
    · exact h1
    · rw [h1, aggGuard]
      rw [run_bind_ok (a := C.P) (w' := w) rfl, run_bind_ok (a := C.P) (w' := w) rfl]
      simp only [hc, Bool.not_false, if_true]; rfl
  · have hc := (cond_some h).1
    replace h := (cond_some h).2
    simp only [Bool.or_eq_true] at hc
    refine ⟨plain ?_ ?_, h⟩
    · rintro u v ⟨e1, e2⟩
      rcases hc with hc | hc
      · exact (oneOf_sound hc hx).1 _ e1
      · exact (oneOf_sound hc hy).1 _ e2
    · rintro ⟨e1, e2⟩
      rcases hc with hc | hc
      · exact (oneOf_sound hc hx).2 e1
      · exact (oneOf_sound hc hy).2 e2

/-- what '==' is asked of where memory may be looked at -/
def eqShape : Value → Bool
  | .bool _ | .pointer _ | .slice .. | .map _ | .func .. | .nilFunc | .iface .. | .nilIface | .agg _ => true
  | _ => false

theorem equalA_shape {t : TypeId} {a b : AV} {r : Bool} {x : Value} (hp : plainEq C.P t = false) (h : equalA C.P H 100 t a b = some r) (hx : Rep G w a x) : eqShape x = true := by
  have ha : (match a with | .bool _ | .nilp | .ptr .. | .lptr _ | .snil | .emp | .slc .. | .lst .. | .nmap | .map _ | .nilFunc | .func .. | .nilIface | .iface .. | .agg _ => true | _ => false) = true := by
    unfold equalA at h
    unfold plainEq at hp
    cases hu : C.P.underlying t with
    | none => rw [hu] at h; simp at h
    | some d =>
      rw [hu] at h hp
      cases d <;> simp only at h hp <;> (try contradiction) <;> cases a <;> first | rfl | (simp only at h; contradiction) | contradiction
  cases a <;> simp only at ha <;> (try contradiction) <;> simp only [Rep] at hx
  case bool => subst hx; rfl
  case nilp => subst hx; rfl
  case ptr => obtain ⟨_, _, rfl⟩ := hx; rfl
  case lptr => obtain ⟨_, _, _, rfl, _⟩ := hx; rfl
  case snil => subst hx; rfl
  case emp => obtain ⟨_, rfl⟩ := hx; rfl
  case slc => obtain ⟨_, _, _, rfl, _⟩ := hx; rfl
  case lst => obtain ⟨_, _, _, _, rfl, _⟩ := hx; rfl
  case nmap => subst hx; rfl
  case map => obtain ⟨_, _, rfl⟩ := hx; rfl
  case nilFunc => subst hx; rfl
  case func => obtain ⟨_, _, rfl, _⟩ := hx; rfl
  case nilIface => subst hx; rfl
  case iface => obtain ⟨_, rfl, _⟩ := hx; rfl
  case agg => obtain ⟨_, rfl, _⟩ := hx; rfl

theorem binOp_eql {t : TypeId} {x y : Value} {r : Bool} (h : (Op.equal t x y).run C.P w = .ok r w) (hi : eqShape x = true) : (binOp .eql t x y).run C.P w = .ok (.bool r) w ∧ (binOp .neq t x y).run C.P w = .ok (.bool !r) w := by
  have e1 : binOp .eql t x y = (do pure (.bool (← Op.equal t x y))) := by cases x <;> simp only [eqShape] at hi <;> (try contradiction) <;> cases y <;> rfl
  have e2 : binOp .neq t x y = (do pure (.bool (!(← Op.equal t x y)))) := by cases x <;> simp only [eqShape] at hi <;> (try contradiction) <;> cases y <;> rfl
  rw [e1, e2, run_bind_ok h, run_bind_ok h]
  exact ⟨rfl, rfl⟩

theorem evalRead_sound (hs : Sim B G H w) {ρ : Operand → Option AV} {ρ' : Operand → Value} (hρ : RepO G w ρ ρ') {o : Oper} {v : AV} (h : evalRead C H ρ o = some v) :
    ∃ x, (execOp ρ' o).run C.P w = .ok (.value x) w ∧ Rep G w v x := by
  obtain ⟨dst, op, type, pos, after, guard⟩ := o
  unfold evalRead at h
  cases op <;> simp only at h <;> try contradiction
  case load t x =>
    obtain ⟨a, h1, h2⟩ := bind_some h
    obtain ⟨z, h3, h4⟩ := loadAt_sound hs h2 (hρ _ _ h1)
    exact ⟨z, run_value h3, h4⟩
  case binOp op t x y yt =>
    split at h <;> try contradiction
    rename_i a b ha hb
    cases op <;> simp only at h <;> try contradiction
    · have hp := (cond_none h).1
      replace h := (cond_none h).2
      obtain ⟨r, hr, rfl⟩ := map_some h
      obtain ⟨h1, h2⟩ := eqA_guard (op := .eql) hr (hρ _ _ ha) (hρ _ _ hb)
      have h3 := equalA_sound hs 100 Op.maxDepth t a b r (ρ' x) (ρ' y) (by decide) h2 (hρ _ _ ha) (hρ _ _ hb)
      refine ⟨.bool r, run_value ?_, by simp [Rep]⟩
      rw [run_bind_ok h1]
      exact (binOp_eql h3 (equalA_shape hp h2 (hρ _ _ ha))).1
    · have hp := (cond_none h).1
      replace h := (cond_none h).2
      obtain ⟨r, hr, rfl⟩ := map_some h
      obtain ⟨h1, h2⟩ := eqA_guard (op := .neq) hr (hρ _ _ ha) (hρ _ _ hb)
      have h3 := equalA_sound hs 100 Op.maxDepth t a b r (ρ' x) (ρ' y) (by decide) h2 (hρ _ _ ha) (hρ _ _ hb)
      refine ⟨.bool !r, run_value ?_, by simp [Rep]⟩
      rw [run_bind_ok h1]
      exact (binOp_eql h3 (equalA_shape hp h2 (hρ _ _ ha))).2
  case convert src dst' x =>
    obtain ⟨a, h1, h2⟩ := bind_some h
    obtain ⟨z, h3, h4⟩ := convR_sound hs h2 (hρ _ _ h1)
    exact ⟨z, run_value h3, h4⟩
  case slice t x lo hi mx =>
    split at h <;> try contradiction
    rename_i a lo' hi' mx' ha hlo hhi hmx
    by_cases hsl : ∃ e, C.P.underlying t = some (.slice e)
    · obtain ⟨z, h3, h4⟩ := sliceA_sound hs hsl h (hρ _ _ ha) (r_evalOpt hρ hlo) (r_evalOpt hρ hhi) (r_evalOpt hρ hmx)
      exact ⟨z, run_value h3, h4⟩
    · -- a string
      have hstr : sliceA C.P .empty t a lo' hi' mx' = some v := by
        unfold sliceA at h ⊢
        split at h <;> try contradiction
        · exact h
        · rename_i e hu; exact absurd ⟨e, hu⟩ hsl
      cases a with
      | str s =>
        obtain ⟨z, h3, h4⟩ := sliceStr_sound hstr (hρ _ _ ha) (r_evalOpt hρ hlo) (r_evalOpt hρ hhi) (r_evalOpt hρ hmx)
        exact ⟨z, run_value h3, h4⟩
      | _ =>
        unfold sliceA at h
        split at h <;> try contradiction
        rename_i e hu; exact absurd ⟨e, hu⟩ hsl
  case lookup t m k ok =>
    split at h <;> try contradiction
    rename_i a b ha hb
    obtain ⟨z, h3, h4⟩ := lookupA_sound hs h (hρ _ _ ha) (hρ _ _ hb)
    exact ⟨z, run_value h3, h4⟩
  case call c =>
    obtain ⟨callee, args, argTypes⟩ := c
    cases callee <;> try contradiction
    rename_i b
    cases b <;> simp only at h <;> try contradiction
    split at h <;> try contradiction
    rename_i a ha
    obtain ⟨x, hx, hr⟩ := args_one hρ ha
    obtain ⟨z, h3, h4⟩ := lenA_sound (ty := type) (Or.inl hs) h hr
    refine ⟨z, ?_, h4⟩
    simp only [execOp]
    rw [call_builtin rfl, hx]
    exact run_value h3
end
end Go.AX
end
section
open Go (execOp)
/- AX: kind 3: blocks that an operation makes for itself. -/
namespace Go.AX

section
variable {C : Cfg} {P : Program} {B : Nat} {G : Ghost} {H : AHeap} {w : World}

theorem repeatL_get {α : Type} (l : List α) (hl : 0 < l.length) : ∀ (n i : Nat), (repeatL n l)[i]? = if i < n * l.length then l[i % l.length]? else none
  | 0, i => by simp [repeatL]
  | n + 1, i => by
    simp only [repeatL]
    rw [List.getElem?_append]
    by_cases h : i < l.length
    · rw [if_pos h, if_pos (by rw [Nat.add_mul]; omega), Nat.mod_eq_of_lt h]
    · rw [if_neg h, repeatL_get l hl n (i - l.length)]
      have e : (i - l.length) % l.length = i % l.length := by rw [Nat.mod_eq_sub_mod (Nat.le_of_not_lt h)]
      rw [e]
      have : (i - l.length < n * l.length) ↔ (i < (n + 1) * l.length) := by rw [Nat.add_mul]; omega
      by_cases h2 : i < (n + 1) * l.length
      · rw [if_pos h2, if_pos (this.2 h2)]
      · rw [if_neg h2, if_neg (fun e => h2 (this.1 e))]

theorem repeatL_length {α : Type} (l : List α) : ∀ n : Nat, (repeatL n l).length = n * l.length
  | 0 => by simp [repeatL]
  | n + 1 => by simp [repeatL, repeatL_length l n, Nat.add_mul, Nat.add_comm]

theorem range_mod [Inhabited Value] (l : List Value) (n : Nat) : ((Array.range (n * l.length)).map fun i => l.toArray[i % l.toArray.size]!).toList = repeatL n l := by
  by_cases hl : l.length = 0
  · have : l = [] := List.eq_nil_of_length_eq_zero hl
    subst this
    have : repeatL n ([] : List Value) = [] := by
      have := repeatL_length ([] : List Value) n
      simp at this; exact this
    simp [this]
  · apply List.ext_getElem?
    intro i
    rw [repeatL_get l (by omega)]
    simp only [Array.toList_map, Array.toList_range, List.getElem?_map, List.getElem?_range', List.size_toArray]
    by_cases h : i < n * l.length
    · rw [if_pos h]
      have h2 : i % l.length < l.length := Nat.mod_lt _ (by omega)
      rw [List.getElem?_range h]
      simp [h2]
    · rw [if_neg h]
      rw [List.getElem?_eq_none (by simpa using h)]; rfl

theorem RepL.repeatL {vs : List AV} {xs : List Value} (h : RepL G w vs xs) : ∀ n, RepL G w (repeatL n vs) (AX.repeatL n xs)
  | 0 => by simp [AX.repeatL, RepL]
  | n + 1 => by simp only [AX.repeatL]; exact h.append (RepL.repeatL h n)

/-- the world with one block more -/
def plus (w : World) (o : Obj) : World := { w with heap := w.heap.push o }

theorem Le.plus {w : World} (hn : ∀ b, G.N b → b < w.heap.size) (o : Obj) : Le G w G (plus w o) := by
  have hsame : ∀ k, k < w.heap.size → (AX.plus w o).heap[k]? = w.heap[k]? := fun k hk => by
    show (w.heap.push o)[k]? = _
    rw [getElem_push, if_neg (by omega)]
  exact ⟨fun _ _ h => h, fun _ h => h, fun b hb => hsame b (hn b hb), fun b c t f hb => ⟨c, f, (hsame b (Array.getElem?_eq_some_iff.1 hb).1).trans hb, rfl⟩⟩

theorem plus_last (w : World) (o : Obj) : (plus w o).heap[w.heap.size]? = some o := by
  show (w.heap.push o)[w.heap.size]? = _
  rw [getElem_push, if_pos rfl]

theorem brel_row {cs : List AV} {xs : List Value} {ty : TypeId} (hn : ∀ b, G.N b → b < w.heap.size) (h : RepL G w cs xs) :
    BRel G (plus w (.cells xs.toArray ty)) w.heap.size (.cells cs ty 0 true) := by
  refine ⟨xs, (0, 0), plus_last w _, by rw [h.length]; exact Nat.le_refl _, ?_, fun o _ _ h => by omega, fun _ => rfl⟩
  rw [← h.length, List.take_length]
  exact RepL.mono (Le.plus hn _) cs xs h

theorem evalFresh_sound (hn : ∀ b, G.N b → b < w.heap.size) {ρ : Operand → Option AV} {ρ' : Operand → Value} (hρ : RepO G w ρ ρ') {o : Oper} {id : Nat} {v : AV} {blk : AB} (h : evalFresh C ρ o id = some (v, blk)) :
    ∃ ob x, (execOp ρ' o).run C.P w = .ok (.value x) (plus w ob) ∧ BRel G (plus w ob) w.heap.size blk ∧
      ∀ G' : Ghost, G'.β id = some w.heap.size → Rep G' (plus w ob) v x := by
  obtain ⟨dst, op, type, pos, after, guard⟩ := o
  unfold evalFresh at h
  cases op <;> simp only at h <;> try contradiction
  case alloc t =>
    obtain ⟨cs, h1, h⟩ := bind_some h
    obtain ⟨_, h⟩ := cond_some h
    simp only [Option.some.injEq, Prod.mk.injEq] at h
    obtain ⟨rfl, rfl⟩ := h
    obtain ⟨z, hz, hr⟩ := r_zeroCells (G := G) h1 w
    refine ⟨.cells z.cells t, .pointer (some ⟨w.heap.size, 0, none⟩), ?_, brel_row hn hr, fun G' hg => by simp only [Rep]; exact ⟨_, hg, rfl⟩⟩
    refine run_value ?_
    rw [Instr.alloc, run_bind_ok hz]
    rfl
  case box t x =>
    obtain ⟨a, h1, h⟩ := bind_some h
    obtain ⟨hc, h⟩ := cond_some h
    simp only [Option.some.injEq, Prod.mk.injEq] at h
    obtain ⟨rfl, rfl⟩ := h
    have hr := (hρ _ _ h1).cells (oneCell_ne_opq hc)
    exact ⟨.cells (ρ' x).cells t, .pointer (some ⟨w.heap.size, 0, none⟩), rfl, brel_row hn hr, fun G' hg => by simp only [Rep]; exact ⟨_, hg, rfl⟩⟩
  case buildSlice t len parts =>
    obtain ⟨ps, h1, h⟩ := bind_some h
    obtain ⟨⟨cs, e, size⟩, h2, h⟩ := bind_some h
    obtain ⟨_, h⟩ := cond_some h
    simp only [Option.some.injEq, Prod.mk.injEq] at h
    obtain ⟨rfl, rfl⟩ := h
    have hp := r_evalP hρ h1
    unfold buildSliceA at h2
    cases he : elemOf C.P t with
    | none => rw [he] at h2; simp at h2
    | some e' =>
      rw [he] at h2
      simp only at h2
      cases hsz : sizeOf C.P e' with
      | none => rw [hsz] at h2; simp at h2
      | some size' =>
        cases hzc : zeroCellsOf C.P e' with
        | none => rw [hsz, hzc] at h2; simp at h2
        | some zero =>
          rw [hsz, hzc] at h2
          simp only at h2
          have hc := (cond_none h2).1
          replace h2 := (cond_none h2).2
          obtain ⟨cs', hf, h2⟩ := map_some h2
          simp only [Prod.mk.injEq] at h2
          obtain ⟨rfl, rfl, rfl⟩ := h2
          simp only [Bool.or_eq_false_iff, Bool.not_eq_false', nbeq, decide_eq_true_iff, blt_dec, decide_eq_false_iff_not] at hc
          obtain ⟨hc1, hc2⟩ := hc
          obtain ⟨z, hz, hzr⟩ := r_zeroCells (G := G) hzc w
          have hzl : z.cells.toList.length = size' := by rw [hzr.length]; exact hc1
          have hu : C.P.underlying t = some (.slice e') := by
            unfold elemOf at he; split at he <;> simp_all
          obtain ⟨ys, hy1, hy2, _⟩ := fillA_sound (ps := (parts.map fun (i, x) => (i, ρ' x)).toList) hf (hzr.repeatL len) (by simpa using hp)
          refine ⟨.cells ys.toArray e', .slice (some ⟨w.heap.size, 0, none⟩) len len, ?_, brel_row hn hy2, fun G' hg => by
            simp only [Rep]; exact ⟨_, len, hg, rfl, Nat.le_refl _, fun c' hc' => by cases hc'; rfl, fun h => nomatch h⟩⟩
          refine run_value ?_
          rw [Instr.buildSlice, run_bind_ok (r_under hu w)]
          simp only []
          rw [run_bind_ok (r_size hsz w)]
          rw [if_neg (by omega)]
          try rw [run_bind_ok (a := ()) (w' := w) rfl]
          have hcells : ((Array.range (len * size')).map fun i => (z.cells)[i % z.cells.size]!) = (repeatL len z.cells.toList).toArray := by
            apply Array.ext'
            have := range_mod z.cells.toList len
            rw [hzl] at this
            simpa using this
          by_cases h0 : len * size' = 0
          · rw [if_pos h0]
            rw [run_bind_ok (a := (#[] : Array Value)) (w' := w) rfl]
            have he0 : repeatL len z.cells.toList = [] := by
              have := repeatL_length z.cells.toList len
              rw [hzl, h0] at this
              exact List.eq_nil_of_length_eq_zero this
            rw [he0] at hy1
            have : ((Array.range (len * size')).map fun i => (#[] : Array Value)[i % (#[] : Array Value).size]!) = ([] : List Value).toArray := by rw [h0]; simp
            rw [this]
            simp only [hy1]; rfl
          · rw [if_neg h0, run_bind_ok hz, run_bind_ok (a := z.cells) (w' := w) rfl, hcells]
            simp only [hy1]; rfl
  case makeMap t r =>
    cases r with
    | some _ => simp at h
    | none =>
      simp only [Option.some.injEq, Prod.mk.injEq] at h
      obtain ⟨rfl, rfl⟩ := h
      exact ⟨.map #[] 0, .map (some w.heap.size), rfl, ⟨[], plus_last w _, by simp [RepE]⟩, fun G' hg => by simp only [Rep]; exact ⟨_, hg, rfl⟩⟩
end
end Go.AX
end
section
open Go (execOp)
/- AX: writes into blocks that are there. -/
namespace Go.AX

section
variable {C : Cfg} {P : Program} {B : Nat} {G : Ghost} {H : AHeap} {w : World}

/-- A world in which one row's cells are others. -/
structure Rowed (w w' : World) (k : Nat) (cur new : List Value) (ty : TypeId) (fr : Nat × Nat) : Prop where
  os : w'.os = w.os
  tape : w'.tape = w.tape
  output : w'.output = w.output
  drawn : w'.drawn = w.drawn
  size : w'.heap.size = w.heap.size
  other : ∀ j, j ≠ k → w'.heap[j]? = w.heap[j]?
  row : w'.heap[k]? = some (.cells ⟨new⟩ ty fr)

theorem run_store_one {k o : Nat} {cur : List Value} {ty : TypeId} {fr : Nat × Nat} {v : Value} (h : w.heap[k]? = some (.cells ⟨cur⟩ ty fr)) (ho : o < cur.length) (hv : oneV v = true) (hf : ¬ (fr.1 ≤ o ∧ o < fr.2)) :
    ∃ w', (store ⟨k, o, none⟩ v).run P w = .ok () w' ∧ Rowed w w' k cur (cur.set o v) ty fr := by
  have hk : k < w.heap.size := (Array.getElem?_eq_some_iff.1 h).1
  refine ⟨w.setCell ⟨k, o, none⟩ v, ?_, ⟨rfl, rfl, rfl, rfl, by simp [World.setCell], fun j hj => RowKit.Below.heap_setCell w _ _ j hj, ?_⟩⟩
  · have hc : w.cell? ⟨k, o, none⟩ = some cur[o] := by rw [cell_of_row h]; simp [ho]
    have hfr : w.frozen? ⟨k, o, none⟩ = false := by
      unfold World.frozen?
      simp only [h]
      simpa using hf
    unfold store
    cases v <;> simp only [oneV] at hv <;> (try contradiction) <;> simp [Sem.run, hc, hfr]
  · unfold World.setCell
    simp only [Array.getElem?_modify, if_true]
    rw [h]
    simp

theorem run_storeCells {k ty : Nat} {fr : Nat × Nat} {o : Nat} : ∀ {vs : List Value} {i : Nat} {cur : List Value} {w : World}, w.heap[k]? = some (.cells ⟨cur⟩ ty fr) → o + i + vs.length ≤ cur.length →
    (∀ v ∈ vs, oneV v = true) → (∀ j, o + i ≤ j → j < o + i + vs.length → ¬ (fr.1 ≤ j ∧ j < fr.2)) →
    ∃ w', (storeCells ⟨k, o, none⟩ vs i).run P w = .ok () w' ∧ Rowed w w' k cur (cur.take (o + i) ++ vs ++ cur.drop (o + i + vs.length)) ty fr
  | [], i, cur, w, h, hl, hv, hf => by
    refine ⟨w, rfl, ⟨rfl, rfl, rfl, rfl, rfl, fun _ _ => rfl, ?_⟩⟩
    simpa using h
  | v :: vs, i, cur, w, h, hl, hv, hf => by
    simp only [List.length_cons] at hl hf
    obtain ⟨w1, h1, r1⟩ := run_store_one (P := P) (v := v) h (o := o + i) (by omega) (hv v (by simp)) (hf (o + i) (Nat.le_refl _) (by omega))
    obtain ⟨w2, h2, r2⟩ := run_storeCells (o := o) (vs := vs) (i := i + 1) (cur := cur.set (o + i) v) (w := w1) r1.row (by simp; omega) (fun u hu => hv u (by simp [hu])) (fun j h1 h2 => hf j (by omega) (by omega))
    refine ⟨w2, ?_, ⟨r2.os.trans r1.os, r2.tape.trans r1.tape, r2.output.trans r1.output, r2.drawn.trans r1.drawn, r2.size.trans r1.size, fun j hj => (r2.other j hj).trans (r1.other j hj), ?_⟩⟩
    · simp only [storeCells]
      rw [add_eq, run_bind_ok h1]; exact h2
    · rw [r2.row]
      congr 2
      congr 1
      -- the row, cell by cell
      apply List.ext_getElem?
      intro j
      simp only [List.length_cons, List.append_assoc, List.getElem?_append, List.length_take, List.length_set, List.getElem?_take, List.getElem?_set, List.getElem?_drop]
      by_cases c1 : j < o + i
      · have a1 : j < min (o + (i + 1)) cur.length := by omega
        have a2 : j < min (o + i) cur.length := by omega
        have a3 : j < o + (i + 1) := by omega
        have a4 : ¬ o + i = j := by omega
        simp [a1, a2, a3, a4, c1]
      · have a2 : ¬ j < min (o + i) cur.length := by omega
        have m2 : min (o + i) cur.length = o + i := by omega
        have m1 : min (o + (i + 1)) cur.length = o + i + 1 := by omega
        rw [if_neg a2, m2, m1]
        by_cases c2 : j = o + i
        · subst c2
          have a1 : o + i < o + i + 1 := by omega
          have a3 : o + i < o + (i + 1) := by omega
          have a5 : o + i < cur.length := by omega
          rw [if_pos a1, if_pos a3, if_pos rfl, if_pos a5, Nat.sub_self]
          simp
        · have a1 : ¬ j < o + i + 1 := by omega
          rw [if_neg a1]
          have e1 : j - (o + i) = (j - (o + i + 1)) + 1 := by omega
          rw [e1]
          by_cases c3 : j - (o + i + 1) < vs.length
          · rw [if_pos c3, if_pos (by omega)]
            simp
          · rw [if_neg c3, if_neg (by omega)]
            have e2 : o + (i + 1) + vs.length + (j - (o + i + 1) - vs.length) = o + i + (vs.length + 1) + (j - (o + i + 1) + 1 - (vs.length + 1)) := by omega
            rw [e2]
            have a4 : ¬ o + i = o + i + (vs.length + 1) + (j - (o + i + 1) + 1 - (vs.length + 1)) := by omega
            rw [if_neg (by omega)]

theorem RepL.oneV {vs : List AV} {xs : List Value} (h : RepL G w vs xs) (ho : vs.all AV.oneCell = true) : ∀ x ∈ xs, oneV x = true := by
  intro x hx
  obtain ⟨i, hi⟩ := List.getElem?_of_mem hx
  have hl := h.length
  have hi' : i < vs.length := by rw [← hl]; exact (List.getElem?_eq_some_iff.1 hi).1
  have hv : vs[i]? = some vs[i] := by simp [hi']
  obtain ⟨y, hy, hr⟩ := h.get hv
  rw [hi] at hy; cases hy
  exact hr.oneCell (List.all_eq_true.1 ho _ (List.getElem_mem hi'))

/-- writing into a block's cells -/
theorem writeAt_sound (hs : Sim B G H w) {b off k : Nat} {vs : List AV} {xs : List Value} {H' : AHeap} (h : writeAt H b off vs = some H') (hr : RepL G w vs xs) (hk : G.β b = some k) :
    ∃ w', (storeCells ⟨k, off, none⟩ xs).run P w = .ok () w' ∧ Sim B G H' w' ∧ Ext B H G w H' G w' := by
  unfold writeAt at h
  cases hb : H.get b with
  | none => rw [hb] at h; simp at h
  | some blk =>
    rw [hb] at h
    cases blk <;> simp only at h <;> try contradiction
    rename_i cs ty frz cl
    have hc := (cond_some h).1
    replace h := (cond_some h).2
    obtain ⟨cs', hsp, rfl⟩ := map_some h
    simp only [Bool.and_eq_true, Bool.or_eq_true, ble_dec, decide_eq_true_iff] at hc
    obtain ⟨hone, hfz⟩ := hc
    obtain ⟨k', hk', hB, hN, us, fr, h1, h2, h3, h4, h5⟩ := hs.blk b _ hb
    rw [hk] at hk'; cases hk'
    have hxl := hr.length
    by_cases he : vs = []
    · subst he
      simp only [RepL] at hr; subst hr
      have : cs' = cs := by cases cs <;> simp [splice] at hsp <;> simp [hsp]
      subst this
      have hset : Sim B G (H.set b (.cells cs' ty frz cl)) w ∧ Ext B H G w (H.set b (.cells cs' ty frz cl)) G w :=
        hs.turn b k _ hb hk w rfl rfl rfl rfl (fun _ _ => rfl) (fun c t f h => ⟨c, f, h, rfl⟩) _ (fun _ => ⟨us, fr, h1, h2, h3, h4, h5⟩)
      exact ⟨w, rfl, hset.1, hset.2⟩
    · obtain ⟨g1, g2, g3⟩ := splice_sound' hsp h3 hr
      rw [if_neg he] at g3
      have g1 := g1 he
      have hfz : frz ≤ off := by
        rcases hfz with h | h
        · exact h
        · exact absurd (by simpa using h) he
      obtain ⟨w', hrun, rw'⟩ := run_storeCells (P := P) (o := off) (i := 0) (vs := xs) h1 (by simp; omega) (hr.oneV hone) (fun j hj1 hj2 => h4 j (by omega) (by omega))
      simp only [Nat.add_zero] at rw'
      have hturn := hs.turn b k _ hb hk w' rw'.os rw'.tape rw'.output rw'.size rw'.other (fun cells ty' fr' hh => by
          rw [h1] at hh; cases hh
          exact ⟨_, fr, rw'.row, by simp; omega⟩) (.cells cs' ty frz cl) (fun hle => by
          refine ⟨_, fr, rw'.row, ?_, ?_, ?_, h5⟩
          · simp; omega
          · have := RepL.mono hle _ _ g3
            have e : (us.take off ++ xs ++ us.drop (off + xs.length)).take cs'.length = (us.take cs.length).take off ++ xs ++ (us.take cs.length).drop (off + xs.length) := by
              rw [g2]
              apply List.ext_getElem?
              intro j
              simp only [List.append_assoc, List.getElem?_take, List.getElem?_append, List.length_take, List.getElem?_drop]
              have m1 : min off us.length = off := by omega
              have m2 : min off (min cs.length us.length) = off := by omega
              rw [m1, m2]
              by_cases c1 : j < off
              · have : j < cs.length := by omega
                simp [c1, this]
              · by_cases c2 : j - off < xs.length
                · have : j < cs.length := by omega
                  simp [c1, c2, this]
                · by_cases c3 : j < cs.length
                  · have : off + xs.length + (j - off - xs.length) < cs.length := by omega
                    simp [c1, c2, c3, this]
                  · have : ¬ off + xs.length + (j - off - xs.length) < cs.length := by omega
                    simp [c1, c2, c3, this]
            rw [e]; exact this
          · intro j hj1 hj2
            refine h4 j hj1 ?_
            simp at hj2; omega)
      exact ⟨w', hrun, hturn.1, hturn.2⟩

theorem storeAt_sound (hs : Sim B G H w) {t : TypeId} {p v : AV} {x y : Value} {H' : AHeap} (h : storeAt P H t p v = some H') (hp : Rep G w p x) (hv : Rep G w v y) :
    ∃ w', (Instr.storeAt t x y).run P w = .ok () w' ∧ Sim B G H' w' ∧ Ext B H G w H' G w' := by
  unfold storeAt at h
  split at h <;> try contradiction
  rename_i b off n hn
  have hc := (cond_some h).1
  replace h := (cond_some h).2
  rw [nbeq, decide_eq_true_iff] at hc
  simp only [Rep] at hp
  obtain ⟨k, hk, rfl⟩ := hp
  have hone : v.cells.all AV.oneCell = true := by
    unfold writeAt at h
    cases hb : H.get b with
    | none => rw [hb] at h; simp at h
    | some blk =>
      rw [hb] at h
      cases blk <;> simp only at h <;> try contradiction
      have := (cond_some h).1
      simp only [Bool.and_eq_true] at this
      exact this.1
  have hcells := hv.cells (oneCell_ne_opq hone)
  obtain ⟨w', h1, h2, h3⟩ := writeAt_sound (P := P) hs h hcells hk
  refine ⟨w', ?_, h2, h3⟩
  rw [Instr.storeAt, run_bind_ok (a := (⟨k, off, none⟩ : Addr)) (w' := w) rfl, storeVar, run_bind_ok (r_size hn w)]
  have : y.cells.size = n := by have := hcells.length; simp at this; omega
  simp only [this, ne_eq, not_true_eq_false, if_false]
  exact h1
end
end Go.AX
end
section
open Go (execOp)
/- AX: append. -/
namespace Go.AX

section
variable {C : Cfg} {P : Program} {B : Nat} {G : Ghost} {H : AHeap} {w : World}

theorem growBy_le (n : Nat) : ∀ (k c : Nat), c ≤ 2 * n + 192 → Builtin.growBy n k c ≤ 2 * n + 192
  | 0, c, h => by simpa [Builtin.growBy] using h
  | k + 1, c, h => by
    simp only [Builtin.growBy]
    split
    · exact h
    · exact growBy_le n k _ (by omega)

theorem nextcap_le {n c : Nat} (h : c < n) : Builtin.nextslicecap n c ≤ 2 * n + 192 := by
  unfold Builtin.nextslicecap
  split
  · omega
  · split
    · omega
    · exact growBy_le n 4 c (by omega)

theorem room_ok {need bytes c : Nat} (hr : need * bytes + need ≤ roomMost) (hc : c < need) (hn : 0 < need) : ¬ Builtin.nextslicecap need c * bytes > 2 ^ 48 := by
  have h1 := nextcap_le hc
  have h2 : Builtin.nextslicecap need c * bytes ≤ (2 * need + 192) * bytes := Nat.mul_le_mul_right _ h1
  have h3 : (2 * need + 192) * bytes = 2 * (need * bytes) + 192 * bytes := by rw [Nat.add_mul, Nat.mul_assoc]
  have h4 : bytes ≤ need * bytes := Nat.le_mul_of_pos_left _ hn
  unfold roomMost at hr
  omega

/-- the arguments of append, as the model takes them -/
structure AppArgs (P : Program) (ts : Array TypeId) (elem : TypeId) (size : Nat) (i : TypeInfo) (z : Value) : Prop where
  t : ∃ t, ts[0]? = some t ∧ P.underlying t = some (.slice elem)
  size : sizeOf P elem = some size
  info : P.info? elem = some i
  zero : ∀ w, (Go.zeroValue elem).run P w = .ok z w

/-- what the model sees of append's second argument's type -/
def Zeros (P : Program) (ts : Array TypeId) (b : Bool) : Prop :=
  (ts[1]? = none ∧ b = false) ∨ ∃ t d, ts[1]? = some t ∧ P.underlying t = some d ∧ (d matches .int _) = b

theorem zeros_of {ts : Array TypeId} {b : Bool} (h : zerosToo P ts = some b) : Zeros P ts b := by
  unfold zerosToo at h
  split at h
  · rename_i hn
    simp only [Option.some.injEq] at h; subst h
    exact .inl ⟨hn, rfl⟩
  · rename_i t ht
    split at h <;> (try contradiction)
    · rename_i k hu
      simp only [Option.some.injEq] at h; subst h
      exact .inr ⟨t, _, ht, hu, rfl⟩
    · rename_i d hne hu
      simp only [Option.some.injEq] at h; subst h
      refine .inr ⟨t, d, ht, hu, ?_⟩
      cases d <;> first | rfl | exact absurd rfl (hne _)

theorem lenOf_run {a : AV} {n : Nat} {x : Value} (h : lenOf a = some n) (hx : Rep G w a x) : (Builtin.lenOf x).run P w = .ok n w := by
  rcases r_lenOf h hx with ⟨b, c, rfl⟩ | ⟨s, rfl, rfl⟩ <;> rfl

variable {ts : Array TypeId} {ty elem : TypeId} {size : Nat} {i : TypeInfo} {z : Value}

/-- it fits: in place -/
theorem append_fit (ha : AppArgs P ts elem size i z) (hz : Zeros P ts false) {base : Option Addr} {sLen sCap n : Nat} {x : Value} {xs : List Value} {w' : World}
    (hn : (Builtin.lenOf x).run P w = .ok n w) (hx : (Builtin.firstCells size n x).run P w = .ok xs.toArray w) (hfit : sLen + n ≤ sCap)
    (hst : (match base with | some a => storeCells (a.add (sLen * size)) xs | none => pure () : Sem Unit).run P w = .ok () w') :
    (Builtin.append_ ts ty #[.slice base sLen sCap, x]).run P w = .ok (.slice base (sLen + n) sCap) w' := by
  obtain ⟨t, ht, hu⟩ := ha.t
  rw [Builtin.append_]
  simp only [ht, show (#[Value.slice base sLen sCap, x] : Array Value)[0]? = some (.slice base sLen sCap) from rfl, show (#[Value.slice base sLen sCap, x] : Array Value)[1]? = some x from rfl]
  rw [run_bind_ok (r_under hu w)]
  simp only []
  rw [run_bind_ok (r_size ha.size w)]
  rcases hz with ⟨h1, _⟩ | ⟨t', d, h1, h2, h3⟩
  all_goals
    simp only [h1]
    first
      | (rw [run_bind_ok (r_under h2 w)]; rw [run_bind_ok (a := false) (w' := w) (by cases d <;> first | rfl | simp at h3)])
      | rw [run_bind_ok (a := false) (w' := w) rfl]
    simp only [Bool.false_eq_true, if_false, Bool.not_false, if_true]
    rw [run_bind_ok hn]
    rw [if_pos hfit, run_bind_ok hx]
    cases base with
    | none =>
      simp only at hst ⊢
      have : w' = w := by injection hst with _ h; exact h.symm
      subst this
      first | rfl | (rw [run_bind_ok (a := ()) (w' := w') rfl]; rfl)
    | some a =>
      simp only at hst ⊢
      rw [run_bind_ok hst]; rfl

/-- it does not: a new row -/
theorem append_grow (ha : AppArgs P ts elem size i z) (hz : Zeros P ts false) {base : Option Addr} {sLen sCap n : Nat} {x : Value} {os xs : List Value}
    (hn : (Builtin.lenOf x).run P w = .ok n w) (hgrow : ¬ sLen + n ≤ sCap) (hroom : (sLen + n) * i.bytes + (sLen + n) ≤ roomMost) (hpos : 0 < sLen + n)
    (ho : (Builtin.firstCells size sLen (.slice base sLen sCap)).run P { w with drawn := w.drawn + 1 } = .ok os.toArray { w with drawn := w.drawn + 1 })
    (hx : (Builtin.firstCells size n x).run P { w with drawn := w.drawn + 1 } = .ok xs.toArray { w with drawn := w.drawn + 1 }) :
    ∃ c, sLen + n ≤ c ∧ (Builtin.append_ ts ty #[.slice base sLen sCap, x]).run P w =
      .ok (.slice (some ⟨w.heap.size, 0, none⟩) (sLen + n) c) (plus { w with drawn := w.drawn + 1 } (.cells (os ++ xs ++ repeatL (c - (sLen + n)) z.cells.toList).toArray elem)) := by
  obtain ⟨t, ht, hu⟩ := ha.t
  have hdraw : (choose (.appendCap (sLen + n) sCap elem)).run P w = .ok ((sLen + n) + w.tape w.drawn (.appendCap (sLen + n) sCap elem) % (2 ^ 63 - (sLen + n))) { w with drawn := w.drawn + 1 } := rfl
  refine ⟨(sLen + n) + w.tape w.drawn (.appendCap (sLen + n) sCap elem) % (2 ^ 63 - (sLen + n)), by omega, ?_⟩
  generalize (sLen + n) + w.tape w.drawn (.appendCap (sLen + n) sCap elem) % (2 ^ 63 - (sLen + n)) = c at hdraw ⊢
  rw [Builtin.append_]
  simp only [ht, show (#[Value.slice base sLen sCap, x] : Array Value)[0]? = some (.slice base sLen sCap) from rfl, show (#[Value.slice base sLen sCap, x] : Array Value)[1]? = some x from rfl]
  rw [run_bind_ok (r_under hu w)]
  simp only []
  rw [run_bind_ok (r_size ha.size w)]
  rcases hz with ⟨h1, _⟩ | ⟨t', d, h1, h2, h3⟩
  all_goals
    simp only [h1]
    first
      | (rw [run_bind_ok (r_under h2 w)]; rw [run_bind_ok (a := false) (w' := w) (by cases d <;> first | rfl | simp at h3)])
      | rw [run_bind_ok (a := false) (w' := w) rfl]
    simp only [Bool.false_eq_true, if_false, Bool.not_false, if_true]
    rw [run_bind_ok hn]
    have hbig : ¬ (((sLen + n : Nat) : Int) > IntKind.i64.max) := by
      unfold roomMost at hroom
      simp only [IntKind.max, IntKind.bits]
      simp
      omega
    rw [if_neg hgrow, run_bind_ok (r_info ha.info w)]
    have hb2 : ¬ (((sLen + n : Nat) : Int) > IntKind.i64.max ∧ (False ∨ i.bytes = 0)) := fun h => hbig h.1
    simp only [hbig, false_and, if_false]
    first | rw [run_bind_ok (r_info ha.info w)] | rw [run_bind_ok (a := ()) (w' := w) rfl, run_bind_ok (r_info ha.info w)]
    rw [if_neg (room_ok hroom (by omega) hpos)]
    first | rw [run_bind_ok hdraw] | rw [run_bind_ok (a := ()) (w' := w) rfl, run_bind_ok hdraw]
    have hinfo' := r_info ha.info { w with drawn := w.drawn + 1 }
    have hask : ∀ b, (askRoom b).run P { w with drawn := w.drawn + 1 } = .ok () { w with drawn := w.drawn + 1 } := by
      intro b; unfold askRoom; split <;> rfl
    rw [run_bind_ok hinfo', run_bind_ok (hask _), run_bind_ok ho, run_bind_ok hx, run_bind_ok (ha.zero _)]
    have hz : (Builtin.zeroCells z.cells (c - (sLen + n))) = (repeatL (c - (sLen + n)) z.cells.toList).toArray := by
      apply Array.ext'
      have := range_mod z.cells.toList (c - (sLen + n))
      simpa [Builtin.zeroCells] using this
    rw [hz]
    show (do let a ← Go.newRow elem _; pure (Value.slice (some a) (sLen + n) c) : Sem Value).run P _ = _
    have : (os.toArray ++ xs.toArray ++ (repeatL (c - (sLen + n)) z.cells.toList).toArray) = (os ++ xs ++ repeatL (c - (sLen + n)) z.cells.toList).toArray := by simp
    rw [this]; rfl

theorem wrap_small {l : Int} (h0 : 0 ≤ l) (h1 : l ≤ (roomMost : Int)) : IntKind.i64.wrap l = l := by
  have h2 : l < 2 ^ 63 := by unfold roomMost at h1; omega
  have e : l % 2 ^ 64 = l := Int.emod_eq_of_lt h0 (by omega)
  show (if (true && decide (l % 2 ^ 64 ≥ 2 ^ 63)) = true then l % 2 ^ 64 - 2 ^ 64 else l % 2 ^ 64) = l
  simp only [e]
  have : ¬ l ≥ 2 ^ 63 := by omega
  rw [decide_eq_false this]
  rfl

theorem zc_list (z : Value) (n : Nat) : Builtin.zeroCells z.cells n = (repeatL n z.cells.toList).toArray := by
  apply Array.ext'
  have := range_mod z.cells.toList n
  simpa [Builtin.zeroCells] using this

/-- 'append(s, make([]T, l)...)', it fits -/
theorem appendz_fit (ha : AppArgs P ts elem size i z) (hz : Zeros P ts true) {base : Option Addr} {sLen sCap : Nat} {k : IntKind} {l : Int} {w' : World}
    (h0 : 0 ≤ l) (hl : l ≤ (roomMost : Int)) (hroom : l.toNat * i.bytes ≤ roomMost) (hpos : ¬ l.toNat * size = 0) (hfit : sLen + l.toNat ≤ sCap)
    (hst : (match base with | some a => storeCells (a.add (sLen * size)) (repeatL l.toNat z.cells.toList) | none => pure () : Sem Unit).run P w = .ok () w') :
    (Builtin.append_ ts ty #[.slice base sLen sCap, .int k l]).run P w = .ok (.slice base (sLen + l.toNat) sCap) w' := by
  obtain ⟨t, ht, hu⟩ := ha.t
  rw [Builtin.append_]
  simp only [ht, show (#[Value.slice base sLen sCap, .int k l] : Array Value)[0]? = some (.slice base sLen sCap) from rfl, show (#[Value.slice base sLen sCap, .int k l] : Array Value)[1]? = some (.int k l) from rfl]
  rw [run_bind_ok (r_under hu w)]
  simp only []
  rw [run_bind_ok (r_size ha.size w)]
  have hb : ¬ l * (i.bytes : Int) > 2 ^ 48 := by
    have e : l * (i.bytes : Int) = ((l.toNat * i.bytes : Nat) : Int) := by rw [Int.natCast_mul]; congr 1; omega
    rw [e]; unfold roomMost at hroom; omega
  rcases hz with ⟨h1, h⟩ | ⟨t', d, h1, h2, h3⟩
  · cases h
  · simp only [h1]
    rw [run_bind_ok (r_under h2 w), run_bind_ok (a := true) (w' := w) (by cases d <;> first | rfl | simp at h3)]
    simp only [if_true, Bool.not_true, Bool.false_eq_true, if_false]
    rw [run_bind_ok (a := l) (w' := w) rfl]
    rw [wrap_small h0 hl, if_neg (by omega)]
    first | rw [run_bind_ok (r_info ha.info w)] | rw [run_bind_ok (a := ()) (w' := w) rfl, run_bind_ok (r_info ha.info w)]
    rw [if_neg hb]
    first | rw [run_bind_ok (a := l.toNat) (w' := w) rfl] | rw [run_bind_ok (a := ()) (w' := w) rfl, run_bind_ok (a := l.toNat) (w' := w) rfl]
    rw [if_pos hfit, if_neg hpos]
    rw [run_bind_ok (a := Builtin.zeroCells z.cells l.toNat) (w' := w) (by rw [run_bind_ok (ha.zero w)]; rfl)]
    rw [zc_list]
    cases base with
    | none =>
      simp only at hst ⊢
      have : w' = w := by injection hst with _ h; exact h.symm
      subst this
      first | rfl | (rw [run_bind_ok (a := ()) (w' := w') rfl]; rfl)
    | some a =>
      simp only at hst ⊢
      rw [run_bind_ok hst]; rfl

/-- 'append(s, make([]T, l)...)', a new row -/
theorem appendz_grow (ha : AppArgs P ts elem size i z) (hz : Zeros P ts true) {base : Option Addr} {sLen sCap : Nat} {k : IntKind} {l : Int} {os : List Value}
    (h0 : 0 ≤ l) (hl : l ≤ (roomMost : Int)) (hnz : ¬ l.toNat * size = 0) (hgrow : ¬ sLen + l.toNat ≤ sCap) (hroom : (sLen + l.toNat) * i.bytes + (sLen + l.toNat) ≤ roomMost) (hpos : 0 < sLen + l.toNat)
    (ho : (Builtin.firstCells size sLen (.slice base sLen sCap)).run P { w with drawn := w.drawn + 1 } = .ok os.toArray { w with drawn := w.drawn + 1 }) :
    ∃ c, sLen + l.toNat ≤ c ∧ (Builtin.append_ ts ty #[.slice base sLen sCap, .int k l]).run P w =
      .ok (.slice (some ⟨w.heap.size, 0, none⟩) (sLen + l.toNat) c) (plus { w with drawn := w.drawn + 1 } (.cells (os ++ repeatL l.toNat z.cells.toList ++ repeatL (c - (sLen + l.toNat)) z.cells.toList).toArray elem)) := by
  obtain ⟨t, ht, hu⟩ := ha.t
  generalize hN : l.toNat = n at *
  have hdraw : (choose (.appendCap (sLen + n) sCap elem)).run P w = .ok ((sLen + n) + w.tape w.drawn (.appendCap (sLen + n) sCap elem) % (2 ^ 63 - (sLen + n))) { w with drawn := w.drawn + 1 } := rfl
  refine ⟨(sLen + n) + w.tape w.drawn (.appendCap (sLen + n) sCap elem) % (2 ^ 63 - (sLen + n)), by omega, ?_⟩
  generalize (sLen + n) + w.tape w.drawn (.appendCap (sLen + n) sCap elem) % (2 ^ 63 - (sLen + n)) = c at hdraw ⊢
  rw [Builtin.append_]
  simp only [ht, show (#[Value.slice base sLen sCap, .int k l] : Array Value)[0]? = some (.slice base sLen sCap) from rfl, show (#[Value.slice base sLen sCap, .int k l] : Array Value)[1]? = some (.int k l) from rfl]
  rw [run_bind_ok (r_under hu w)]
  simp only []
  rw [run_bind_ok (r_size ha.size w)]
  have hb : ¬ l * (i.bytes : Int) > 2 ^ 48 := by
    have e : l * (i.bytes : Int) = ((n * i.bytes : Nat) : Int) := by rw [Int.natCast_mul]; congr 1; omega
    rw [e]
    have : n * i.bytes ≤ (sLen + n) * i.bytes := Nat.mul_le_mul_right _ (by omega)
    unfold roomMost at hroom; omega
  have hbig : ¬ (((sLen + n : Nat) : Int) > IntKind.i64.max) := by
    unfold roomMost at hroom
    simp only [IntKind.max, IntKind.bits]
    simp
    omega
  rcases hz with ⟨h1, h⟩ | ⟨t', d, h1, h2, h3⟩
  · cases h
  · simp only [h1]
    rw [run_bind_ok (r_under h2 w), run_bind_ok (a := true) (w' := w) (by cases d <;> first | rfl | simp at h3)]
    simp only [if_true, Bool.not_true, Bool.false_eq_true, if_false]
    rw [run_bind_ok (a := l) (w' := w) rfl]
    rw [wrap_small h0 hl, if_neg (by omega)]
    first | rw [run_bind_ok (r_info ha.info w)] | rw [run_bind_ok (a := ()) (w' := w) rfl, run_bind_ok (r_info ha.info w)]
    rw [if_neg hb]
    first | rw [run_bind_ok (a := l.toNat) (w' := w) rfl] | rw [run_bind_ok (a := ()) (w' := w) rfl, run_bind_ok (a := l.toNat) (w' := w) rfl]
    rw [hN, if_neg hgrow, run_bind_ok (r_info ha.info w)]
    simp only [hbig, false_and, if_false]
    first | rw [run_bind_ok (r_info ha.info w)] | rw [run_bind_ok (a := ()) (w' := w) rfl, run_bind_ok (r_info ha.info w)]
    rw [if_neg (room_ok hroom (by omega) hpos)]
    first | rw [run_bind_ok hdraw] | rw [run_bind_ok (a := ()) (w' := w) rfl, run_bind_ok hdraw]
    have hinfo' := r_info ha.info { w with drawn := w.drawn + 1 }
    have hask : ∀ b, (askRoom b).run P { w with drawn := w.drawn + 1 } = .ok () { w with drawn := w.drawn + 1 } := by
      intro b; unfold askRoom; split <;> rfl
    rw [run_bind_ok hinfo', run_bind_ok (hask _), run_bind_ok ho, if_neg hnz, run_bind_ok (a := Builtin.zeroCells z.cells n) (w' := { w with drawn := w.drawn + 1 }) (by rw [run_bind_ok (ha.zero _)]; rfl)]
    rw [run_bind_ok (ha.zero _)]
    rw [zc_list, zc_list]
    show (do let a ← Go.newRow elem _; pure (Value.slice (some a) (sLen + n) c) : Sem Value).run P _ = _
    have : (os.toArray ++ (repeatL n z.cells.toList).toArray ++ (repeatL (c - (sLen + n)) z.cells.toList).toArray) = (os ++ repeatL n z.cells.toList ++ repeatL (c - (sLen + n)) z.cells.toList).toArray := by simp
    rw [this]; rfl
end
end Go.AX
end
section
open Go (execOp)
/- AX: append, copy: what they come to. -/
namespace Go.AX

section
variable {C : Cfg} {P : Program} {B : Nat} {G : Ghost} {H : AHeap} {w : World}

theorem Sim.congr {H' : AHeap} (h : Sim B G H w) (hg : ∀ i, H'.get i = H.get i) (hn : H'.next = H.next) : Sim B G H' w :=
  h.sub (fun i b hb => by rw [hg] at hb; exact hb) (by omega)

/-- a block gets another number -/
theorem Sim.rename {b k : Nat} {blk : AB} (hs : Sim B G H w) (hb : H.get b = some blk) (hk : G.β b = some k) (blk' : AB) (hblk : BRel G w k blk') :
    ∃ G', G'.β H.next = some k ∧ Sim B G' ((H.drop b).push blk') w ∧ Ext B H G w ((H.drop b).push blk') G' w := by
  let G' : Ghost := ⟨fun i => if i = H.next then some k else G.β i, G.N⟩
  have hnew : G.β H.next = none := by
    cases h : G.β H.next with
    | none => rfl
    | some k' => exact absurd (hs.old _ _ h) (Nat.lt_irrefl _)
  have hle : Le G w G' w := ⟨fun i k' hk' => by show (if i = H.next then _ else _) = _; rw [if_neg (fun e => by subst e; rw [hnew] at hk'; cases hk')]; exact hk', fun _ h => h, fun _ _ => rfl, fun _ c _ f h => ⟨c, f, h, rfl⟩⟩
  obtain ⟨k0, hk0, hB, hN, _⟩ := hs.blk b blk hb
  rw [hk] at hk0; cases hk0
  have hbn : b ≠ H.next := fun e => by have := hs.old b k hk; omega
  have hgb : ∀ i, ((H.drop b).push blk').get i = if i = H.next then some blk' else if i = b then none else H.get i := fun i => by
    rw [AHeap.get_push, AHeap.get_drop, AHeap.next_drop]
  refine ⟨G', by simp [G'], ⟨?_, ?_, ?_, ?_, hs.nsmall, hs.base⟩, ⟨⟨rfl, rfl, rfl, Nat.le_refl _, hle.β, rfl, fun _ _ _ => rfl, ?_, hle.shape, by simp⟩, fun i hi hn => by show (if i = H.next then _ else _) = _; rw [if_neg (by omega)]; exact hn⟩⟩
  · intro i bi hi
    rw [hgb] at hi
    by_cases e : i = H.next
    · subst e
      rw [if_pos rfl] at hi; cases hi
      exact ⟨k, by simp [G'], hB, hN, hblk.mono hle rfl⟩
    · rw [if_neg e] at hi
      by_cases e' : i = b
      · rw [if_pos e'] at hi; cases hi
      · rw [if_neg e'] at hi
        obtain ⟨k', h1, h2, h3, h4⟩ := hs.blk i bi hi
        exact ⟨k', hle.β _ _ h1, h2, h3, h4.mono hle rfl⟩
  · intro i j bi bj k' hi hj hk1 hk2
    rw [hgb] at hi hj
    by_cases e : i = H.next <;> by_cases e' : j = H.next
    · rw [e, e']
    · exfalso
      rw [if_neg e'] at hj
      by_cases e2 : j = b
      · rw [if_pos e2] at hj; cases hj
      · rw [if_neg e2] at hj
        have h1 : k' = k := by simpa [G', e] using hk1.symm
        have h2 : G.β j = some k' := by simpa [G', e'] using hk2
        exact e2 (hs.inj j b bj blk k' hj hb h2 (h1 ▸ hk))
    · exfalso
      rw [if_neg e] at hi
      by_cases e2 : i = b
      · rw [if_pos e2] at hi; cases hi
      · rw [if_neg e2] at hi
        have h1 : k' = k := by simpa [G', e'] using hk2.symm
        have h2 : G.β i = some k' := by simpa [G', e] using hk1
        exact e2 (hs.inj i b bi blk k' hi hb h2 (h1 ▸ hk))
    · rw [if_neg e] at hi
      rw [if_neg e'] at hj
      by_cases e2 : i = b
      · rw [if_pos e2] at hi; cases hi
      · by_cases e3 : j = b
        · rw [if_pos e3] at hj; cases hj
        · rw [if_neg e2] at hi
          rw [if_neg e3] at hj
          exact hs.inj i j bi bj k' hi hj (by simpa [G', e] using hk1) (by simpa [G', e'] using hk2)
  · intro i k' hk'
    rw [AHeap.next_push, AHeap.next_drop]
    by_cases e : i = H.next
    · omega
    · have := hs.old i k' (by simpa [G', e] using hk'); omega
  · intro i k' hk'
    by_cases e : i = H.next
    · have : k' = k := by simpa [G', e] using hk'.symm
      subst this; exact hs.small _ _ hk
    · exact hs.small i k' (by simpa [G', e] using hk')
  · intro i bi k' hi hk' _
    rw [hgb] at hi
    by_cases e : i = H.next
    · have : k' = k := by simpa [G', e] using hk'.symm
      subst this; exact ⟨b, blk, hb, hk⟩
    · rw [if_neg e] at hi
      by_cases e' : i = b
      · rw [if_pos e'] at hi; cases hi
      · rw [if_neg e'] at hi
        exact ⟨i, bi, hi, by simpa [G', e] using hk'⟩

/-- forgetting a block is no step -/
theorem Ext.drop (b : Nat) : Ext B H G w (H.drop b) G w :=
  ⟨⟨rfl, rfl, rfl, Nat.le_refl _, fun _ _ h => h, rfl, fun _ _ _ => rfl, fun i blk k hi hk _ => by
    rw [AHeap.get_drop] at hi
    by_cases e : i = b
    · rw [if_pos e] at hi; cases hi
    · rw [if_neg e] at hi; exact ⟨i, blk, hi, hk⟩, fun _ c _ f h => ⟨c, f, h, rfl⟩, by rw [AHeap.next_drop]; exact Nat.le_refl _⟩, fun _ _ h => h⟩

theorem Sim.drop (hs : Sim B G H w) (b : Nat) : Sim B G (H.drop b) w :=
  hs.sub (fun i blk hi => by
    rw [AHeap.get_drop] at hi
    by_cases e : i = b
    · rw [if_pos e] at hi; cases hi
    · rw [if_neg e] at hi; exact hi) (by rw [AHeap.next_drop]; exact Nat.le_refl _)

/-- a new row -/
theorem Sim.push {ob : Obj} {blk : AB} (hs : Sim B G H w) (hb : BRel G (plus w ob) w.heap.size blk) :
    ∃ G', G'.β H.next = some w.heap.size ∧ Sim B G' (H.push blk) (plus w ob) ∧ Ext B H G w (H.push blk) G' (plus w ob) := by
  have hnew : G.β H.next = none := by
    cases h : G.β H.next with
    | none => rfl
    | some k' => exact absurd (hs.old _ _ h) (Nat.lt_irrefl _)
  have hget : H.get H.next = none := by
    cases h : H.get H.next with
    | none => rfl
    | some b => obtain ⟨k, hk, _⟩ := hs.blk _ _ h; rw [hnew] at hk; cases hk
  obtain ⟨G', h1, h2, h3, h4, _⟩ := hs.put H.next (H.next + 1) hnew (Nat.le_succ _) (Nat.lt_succ_self _) hget ob blk hb
  rw [AHeap.push_def]
  exact ⟨G', h1, h2, ⟨h3, fun i hi hn => (h4 i (by omega)).trans hn⟩⟩

theorem Ext.congr {H' H'' : AHeap} {G' : Ghost} {w' : World} (h : Ext B H G w H' G' w') (hg : ∀ i, H''.get i = H'.get i) (hn : H''.next = H'.next) : Ext B H G w H'' G' w' :=
  ⟨⟨h.os, h.tape, h.output, h.size, h.β, h.N, h.other, fun i blk k hi hk hlt => h.live i blk k (by rw [hg] at hi; exact hi) hk hlt, h.shape, by rw [hn]; exact h.next⟩, h.fix⟩

theorem appendC_sound (hs : Sim B G H w) {elem : TypeId} {s v : AV} {n : Nat} {new? : Option (List AV)} {H' : AHeap} {x : Value} {r : Result Value} {size : Nat} {i : TypeInfo} {z : Value}
    (hi : P.info? elem = some i) (hsz : sizeOf P elem = some size) (hz : ∀ w, (Go.zeroValue elem).run P w = .ok z w)
    (h : appendC P H elem s n new? = some (v, H')) (hx : Rep G w s x)
    (h0 : n = 0 → ∀ base sLen sCap, x = .slice base sLen sCap → sLen ≤ sCap → r = .ok x w)
    (xs : List Value) (hnew : ∀ new, new? = some new → n ≠ 0 → new.length = n * size → RepL G w new xs)
    (hfit : ∀ base sLen sCap w', n ≠ 0 → size ≠ 0 → x = .slice base sLen sCap → (sLen + n) * i.bytes + (sLen + n) ≤ roomMost → sLen + n ≤ sCap →
      (match base with | some a => storeCells (a.add (sLen * size)) xs | none => pure () : Sem Unit).run P w = .ok () w' → r = .ok (.slice base (sLen + n) sCap) w')
    (hgrow : ∀ base sLen sCap os, n ≠ 0 → size ≠ 0 → x = .slice base sLen sCap → ¬ sLen + n ≤ sCap → (sLen + n) * i.bytes + (sLen + n) ≤ roomMost → 0 < sLen + n →
      (Builtin.firstCells size sLen (.slice base sLen sCap)).run P { w with drawn := w.drawn + 1 } = .ok os.toArray { w with drawn := w.drawn + 1 } →
      ∃ c, sLen + n ≤ c ∧ r = .ok (.slice (some ⟨w.heap.size, 0, none⟩) (sLen + n) c) (plus { w with drawn := w.drawn + 1 } (.cells (os ++ xs ++ repeatL (c - (sLen + n)) z.cells.toList).toArray elem))) :
    ∃ y G' w', r = .ok y w' ∧ Sim B G' H' w' ∧ Ext B H G w H' G' w' ∧ Rep G' w' v y := by
  have hby : bytesOf P elem = some i.bytes := by simp [bytesOf, hi]
  unfold appendC at h
  simp only [hsz, hby, Option.bind_eq_bind, Option.bind_some] at h
  obtain ⟨sLen, hsl, hQ⟩ := bind_some h
  replace h := hQ
  clear hQ
  obtain ⟨zero, hzero, hQ⟩ := bind_some h
  replace h := hQ
  clear hQ
  -- what the slice is
  have hsx : (∃ b c, x = .slice b sLen c) ∨ (∃ st : ByteArray, x = .string st ∧ st.size = sLen) := r_lenOf hsl hx
  by_cases hn0 : n = 0
  · rw [nbeq, decide_eq_true hn0] at h
    simp only [cond_true] at h
    have hns : (∀ t, s ≠ .str t) ∧ s = v ∧ H = H' := by
      split at h
      · contradiction
      · rename_i hne
        simp only [Option.some.injEq, Prod.mk.injEq] at h
        exact ⟨fun t e => hne t e, h.1, h.2⟩
    obtain ⟨hns, rfl, rfl⟩ := hns
    have hsl' : ∃ base sCap, x = .slice base sLen sCap ∧ sLen ≤ sCap := by
      cases s <;> simp only [lenOf, Option.some.injEq] at hsl <;> (try contradiction) <;> simp only [Rep] at hx
      case snil => subst hsl; exact ⟨_, _, hx, Nat.le_refl _⟩
      case emp => subst hsl; obtain ⟨a, rfl⟩ := hx; exact ⟨_, _, rfl, Nat.le_refl _⟩
      case slc => subst hsl; obtain ⟨k, c, _, rfl, hl, _⟩ := hx; exact ⟨_, _, rfl, hl⟩
      case lst => subst hsl; obtain ⟨b, o, c, vs, rfl, hl, _⟩ := hx; exact ⟨_, _, rfl, hl⟩
    obtain ⟨base, sCap, hxe, hle⟩ := hsl'
    exact ⟨x, G, w, h0 hn0 base sLen sCap hxe hle, hs, Ext.refl _ _ _ _, hx⟩
  · rw [nbeq, decide_eq_false hn0] at h
    simp only [cond_false] at h
    have hc1 := (cond_none h).1
    replace h := (cond_none h).2
    simp only [Bool.or_eq_false_iff, nbeq, decide_eq_false_iff_not, Bool.not_eq_false', decide_eq_true_iff] at hc1
    obtain ⟨hsize, hzl⟩ := hc1
    obtain ⟨new, hnw, hQ⟩ := bind_some h
    replace h := hQ
    clear hQ
    have hc2 := (cond_none h).1
    replace h := (cond_none h).2
    simp only [Bool.or_eq_false_iff, Bool.not_eq_false', nbeq, blt_dec, decide_eq_false_iff_not, decide_eq_true_iff, Nat.not_lt] at hc2
    obtain ⟨⟨hone, hroom⟩, hnl⟩ := hc2
    have hnr := hnew new hnw hn0 hnl
    have hxl := hnr.length
    obtain ⟨zz, hz1, hz2⟩ := r_zeroCells (G := G) hzero w
    have hzz : zz = z := by have := (hz w).symm.trans hz1; injection this with h _; exact h.symm
    subst hzz
    have hzlen : zz.cells.toList.length = size := by rw [hz2.length]; exact hzl
    -- a new row
    have grow : ∀ {base : Option Addr} {sCap : Nat} {old : List AV} {os : List Value} {H1 : AHeap} {frz : Nat} {cl : Bool}, x = .slice base sLen sCap → ¬ sLen + n ≤ sCap → RepL G { w with drawn := w.drawn + 1 } old os → old.length = sLen * size →
        (Builtin.firstCells size sLen (.slice base sLen sCap)).run P { w with drawn := w.drawn + 1 } = .ok os.toArray { w with drawn := w.drawn + 1 } → Sim B G H1 w → Ext B H G w H1 G w → H1.next = H.next →
        ∃ y G' w', r = .ok y w' ∧ Sim B G' (H1.push (.cells (old ++ new) elem frz cl)) w' ∧ Ext B H G w (H1.push (.cells (old ++ new) elem frz cl)) G' w' ∧ Rep G' w' (.slc H.next 0 (sLen + n) none size) y := by
      intro base sCap old os H1 frz cl hxe hng hor hol hfo hs1 hext hnx
      obtain ⟨hs2, hext2, hle2⟩ := hs1.drew (w.drawn + 1)
      obtain ⟨c, hc, hr⟩ := hgrow base sLen sCap os hn0 hsize hxe hng hroom (by omega) hfo
      have hosl := hor.length
      have hbrel : BRel G (plus { w with drawn := w.drawn + 1 } (.cells (os ++ xs ++ repeatL (c - (sLen + n)) zz.cells.toList).toArray elem)) w.heap.size (.cells (old ++ new) elem frz cl) := by
        refine ⟨os ++ xs ++ repeatL (c - (sLen + n)) zz.cells.toList, (0, 0), plus_last _ _, ?_, ?_, fun o _ _ h => by omega, fun _ => rfl⟩
        · simp; omega
        · have hlen : (old ++ new).length = (os ++ xs).length := by simp; omega
          rw [hlen, List.append_assoc os xs, ← List.append_assoc, List.take_left]
          exact RepL.mono (Le.plus (w := { w with drawn := w.drawn + 1 }) hs2.nsmall _) _ _ (hor.append (RepL.mono hle2 _ _ hnr))
      obtain ⟨G', g1, g2, g3⟩ := hs2.push hbrel
      refine ⟨_, G', _, hr, g2, (hext.trans hext2).trans g3, ?_⟩
      simp only [Rep]
      refine ⟨w.heap.size, c, by rw [← hnx]; exact g1, rfl, by omega, (fun c' hc' => nomatch hc'), fun _ => ⟨_, elem, (0, 0), plus_last _ _, ?_⟩⟩
      simp only [List.size_toArray, List.length_append, repeatL_length, hzlen]
      have : c * size = (sLen + n) * size + (c - (sLen + n)) * size := by rw [← Nat.add_mul]; congr 1; omega
      rw [Nat.add_mul] at this
      omega
    cases s <;> simp only [lenOf, Option.some.injEq] at hsl <;> (try contradiction) <;> (try (simp only at h; contradiction))
    case snil =>
      subst hsl
      simp only [Rep] at hx
      simp only at h
      obtain ⟨⟨b, H1⟩, hrow, hQ⟩ := bind_some h
      replace h := hQ
      clear hQ
      unfold newRow at hrow
      replace hrow := (cond_some hrow).2
      simp only [Option.some.injEq, Prod.mk.injEq] at hrow h
      obtain ⟨rfl, rfl⟩ := hrow
      obtain ⟨rfl, rfl⟩ := h
      have := grow (old := []) (os := []) (H1 := H) (frz := 0) (cl := true) hx (by omega) (by simp [RepL]) (by simp) rfl hs (Ext.refl _ _ _ _) rfl
      simpa using this
    case emp =>
      subst hsl
      simp only [Rep] at hx
      obtain ⟨a, hx⟩ := hx
      simp only at h
      obtain ⟨⟨b, H1⟩, hrow, hQ⟩ := bind_some h
      replace h := hQ
      clear hQ
      unfold newRow at hrow
      replace hrow := (cond_some hrow).2
      simp only [Option.some.injEq, Prod.mk.injEq] at hrow h
      obtain ⟨rfl, rfl⟩ := hrow
      obtain ⟨rfl, rfl⟩ := h
      have := grow (old := []) (os := []) (H1 := H) (frz := 0) (cl := true) hx (by omega) (by simp [RepL]) (by simp) (by simp [Builtin.firstCells, loadCells, loadCellsFrom]) hs (Ext.refl _ _ _ _) rfl
      simpa using this
    case slc b off len cap esz =>
      subst hsl
      have hx' := hx
      simp only [Rep] at hx
      obtain ⟨k, c, hk, hxe, hlc, hcc, hnone⟩ := hx
      -- in place
      have place : ∀ {H1 : AHeap} {cap' : Option Nat}, esz = size → writeAt H b (off + len * size) new = some H1 → len + n ≤ c → (cap' = cap) →
          ∃ y G' w', r = .ok y w' ∧ Sim B G' H1 w' ∧ Ext B H G w H1 G' w' ∧ Rep G' w' (.slc b off (len + n) cap' size) y := by
        intro H1 cap' he hw hfc hcap'
        subst he; subst hcap'
        obtain ⟨w', h1, h2, h3⟩ := writeAt_sound (P := P) hs hw hnr hk
        have hle := h3.le hs
        refine ⟨_, G, w', hfit (some ⟨k, off, none⟩) len c w' hn0 hsize hxe hroom hfc (by simp only [add_eq]; exact h1), h2, h3, ?_⟩
        simp only [Rep]
        refine ⟨k, c, hk, rfl, hfc, hcc, fun e => ?_⟩
        obtain ⟨cells, ty, fr, g1, g2⟩ := hnone e
        obtain ⟨cells', fr', g3, g4⟩ := hle.shape k cells ty fr g1
        exact ⟨cells', ty, fr', g3, by rw [g4]; exact g2⟩
      cases cap with
      | some c' =>
        have hce := hcc c' rfl; subst hce
        simp only at h
        have hes := (cond_none h).1
        replace h := (cond_none h).2
        rw [nbeq, Bool.not_eq_false', decide_eq_true_iff] at hes
        rw [ble_dec] at h
        by_cases hf : len + n ≤ c
        · rw [decide_eq_true hf] at h
          simp only [cond_true] at h
          obtain ⟨H1, hw, hQ⟩ := bind_some h
          replace h := hQ
          clear hQ
          simp only [Option.some.injEq, Prod.mk.injEq] at h
          obtain ⟨rfl, rfl⟩ := h
          exact place hes hw hf rfl
        · rw [decide_eq_false hf] at h
          simp only [cond_false] at h
          obtain ⟨old, ho, hQ⟩ := bind_some h
          replace h := hQ
          clear hQ
          obtain ⟨⟨j, H1⟩, hrow, hQ⟩ := bind_some h
          replace h := hQ
          clear hQ
          unfold newRow at hrow
          replace hrow := (cond_some hrow).2
          simp only [Option.some.injEq, Prod.mk.injEq] at hrow h
          obtain ⟨rfl, rfl⟩ := hrow
          obtain ⟨rfl, rfl⟩ := h
          have hol : old.length = len * size := by
            simp only [firstCells] at ho
            unfold readAt at ho
            simp only [cut_eq] at ho
            split at ho <;> try contradiction
            have e1 := (cond_some ho).1
            replace ho := (cond_some ho).2
            simp only [Option.some.injEq] at ho; subst ho
            rw [ble_dec, decide_eq_true_iff] at e1
            simp; omega
          obtain ⟨hs1, _, hle1⟩ := hs.drew (w.drawn + 1)
          obtain ⟨os, g1, g2⟩ := firstCells_sound (P := P) hs1 ho (m := len) rfl (Nat.le_refl _) (Rep.mono hle1 _ _ hx')
          rw [hxe] at g1
          exact grow (H1 := H) hxe hf g2 hol g1 hs (Ext.refl _ _ _ _) rfl
      | none =>
        simp only at h
        have hes := (cond_none h).1
        replace h := (cond_none h).2
        rw [nbeq, Bool.not_eq_false', decide_eq_true_iff] at hes
        subst hes
        obtain ⟨cells, ty0, fr0, hrow0, hsz0⟩ := hnone rfl
        cases hb : H.get b with
        | none => rw [hb] at h; simp at h
        | some blk =>
          rw [hb] at h
          cases blk <;> (try simp only at h) <;> try contradiction
          rename_i cs ty frz cl
          rw [ble_dec] at h
          obtain ⟨k', hk', hB, hN, vs, fr, h1, h2, h3, h4, h5⟩ := hs.blk b _ hb
          rw [hk] at hk'; cases hk'
          rw [hrow0] at h1; cases h1
          by_cases hf : off + (len + n) * esz ≤ cs.length
          · rw [decide_eq_true hf] at h
            simp only [cond_true] at h
            obtain ⟨H1, hw, hQ⟩ := bind_some h
            replace h := hQ
            clear hQ
            simp only [Option.some.injEq, Prod.mk.injEq] at h
            obtain ⟨rfl, rfl⟩ := h
            have hfc : len + n ≤ c := by
              have e1 : off + (len + n) * esz ≤ off + c * esz := by rw [hsz0]; simp; omega
              have e2 : (len + n) * esz ≤ c * esz := by omega
              exact Nat.le_of_mul_le_mul_right e2 (by omega)
            exact place rfl hw hfc rfl
          · rw [decide_eq_false hf] at h
            simp only [cond_false] at h
            have hc3 := (cond_none h).1
            replace h := (cond_none h).2
            simp only [Bool.or_eq_false_iff, Bool.not_eq_false', nbeq, ble_dec, decide_eq_true_iff] at hc3
            obtain ⟨⟨⟨ho0, hte⟩, hfz⟩, hlk⟩ := hc3
            subst ho0; subst hte
            simp only [Option.some.injEq, Prod.mk.injEq] at h
            obtain ⟨rfl, rfl⟩ := h
            simp only [Nat.zero_add] at hsz0
            by_cases hfc : len + n ≤ c
            · -- in place, behind what is known
              have hcl : (len + n) * esz ≤ vs.length := by
                have : (len + n) * esz ≤ c * esz := Nat.mul_le_mul_right _ hfc
                have e : vs.length = c * esz := by simpa using hsz0.symm
                omega
              have hmul : (len + n) * esz = len * esz + n * esz := Nat.add_mul _ _ _
              obtain ⟨w', g1, g2⟩ := run_storeCells (P := P) (o := len * esz) (i := 0) (vs := xs) hrow0 (by omega) (hnr.oneV hone) (fun j hj1 hj2 => h4 j (by omega) (by omega))
              simp only [Nat.add_zero] at g2
              -- the row as it then is
              have hbr : Le G w G w' → BRel G w' k (.cells (cs.take (len * esz) ++ new) ty0 frz cl) := fun hle => by
                refine ⟨_, fr0, g2.row, ?_, ?_, ?_, h5⟩
                · simp; omega
                · have e1 : (cs.take (len * esz) ++ new).length = (vs.take (len * esz) ++ xs).length := by simp; omega
                  rw [e1, List.take_left' rfl]
                  have h3' := h3.take (len * esz)
                  rw [List.take_take, Nat.min_eq_left hlk] at h3'
                  exact RepL.mono hle _ _ (h3'.append hnr)
                · intro j hj1 hj2
                  refine h4 j hj1 ?_
                  simp at hj2; omega
              obtain ⟨s1, s2⟩ := hs.turn b k _ hb hk w' g2.os g2.tape g2.output g2.size g2.other (fun cells' ty' fr' hh => by
                rw [hrow0] at hh; cases hh
                exact ⟨_, fr0, g2.row, by simp; omega⟩) _ hbr
              have hget : (H.set b (.cells (cs.take (len * esz) ++ new) ty0 frz cl)).get b = some (.cells (cs.take (len * esz) ++ new) ty0 frz cl) := by rw [AHeap.get_set, if_pos rfl]
              have hbr' : BRel G w' k (.cells (cs.take (len * esz) ++ new) ty0 frz cl) := by
                obtain ⟨k', hk', _, _, hb'⟩ := s1.blk b _ hget
                rw [hk] at hk'; cases hk'; exact hb'
              obtain ⟨G', t1, t2, t3⟩ := s1.rename hget hk (.cells (cs.take (len * esz) ++ new) ty0 frz cl) hbr'
              have hgeteq : ∀ i, ((H.drop b).push (.cells (cs.take (len * esz) ++ new) ty0 frz cl)).get i = (((H.set b (.cells (cs.take (len * esz) ++ new) ty0 frz cl)).drop b).push (.cells (cs.take (len * esz) ++ new) ty0 frz cl)).get i := fun i => by
                rw [AHeap.get_push, AHeap.get_push, AHeap.get_drop, AHeap.get_drop, AHeap.get_set]
                simp only [AHeap.next_drop, AHeap.next_set]
                by_cases e1 : i = b <;> simp [e1]
              refine ⟨_, G', w', hfit (some ⟨k, 0, none⟩) len c w' hn0 hsize hxe hroom hfc (by simp only [add_eq, Nat.zero_add]; exact g1), t2.congr hgeteq (by simp), ?_, ?_⟩
              · refine (s2.trans t3).congr hgeteq (by simp)
              · simp only [Rep]
                exact ⟨k, c, (by rw [AHeap.next_set] at t1; exact t1), rfl, hfc, (fun c' hc' => nomatch hc'), fun _ => ⟨_, ty0, fr0, g2.row, by
                  have : vs.length = c * esz := by simpa using hsz0.symm
                  simp; omega⟩⟩
            · -- a new row
              have hol : (cs.take (len * esz)).length = len * esz := by simp; omega
              have h3' := h3.take (len * esz)
              rw [List.take_take, Nat.min_eq_left hlk] at h3'
              have hload : (Builtin.firstCells esz len (.slice (some ⟨k, 0, none⟩) len c)).run P { w with drawn := w.drawn + 1 } = .ok (vs.take (len * esz)).toArray { w with drawn := w.drawn + 1 } := by
                show (loadCells ⟨k, 0, none⟩ (len * esz)).run P _ = _
                refine run_loadCells_at (fun j v hv => ?_) (by simp; omega)
                rw [cell_of_row (w := { w with drawn := w.drawn + 1 }) hrow0, Nat.zero_add]
                rw [List.getElem?_take] at hv
                split at hv <;> simp_all
              exact grow (H1 := H.drop b) hxe hfc (RepL.mono (hs.drew (w.drawn + 1)).2.2 _ _ h3') hol hload (hs.drop b) (Ext.drop b) (AHeap.next_drop H b)
end
end Go.AX
end
