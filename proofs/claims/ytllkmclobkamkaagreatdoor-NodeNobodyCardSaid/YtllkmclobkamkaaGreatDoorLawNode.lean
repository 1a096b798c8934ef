/- NodeNobody: for every settings and every act, nodes that New did not make do nothing, and the chapter's example is met: the law comes to true, and what came in reads as it did. Conditions: the given row's own (the variable raceway/crc.half holds what the program's text lays; the card ties it). -/
import Derived.Test.YtllkmclobkamkaaGreatDoorRunNode
import Derived.Test.YtllkmclobkamkaaGreatDoorFactsNodeB
import Derived.Test.YtllkmclobkamkaaGreatDoorRows
import Derived.Test.YtllkmclobkamkaaGreatDoorTie
import Derived.Test.YtllkmclobkamkaaGreatDoorCards
import Derived.ProofKit
import Derived.OpenShut
import Derived.ChangeOld
import Derived.Carry
import Derived.Below
import Derived.SizedLaws
import Derived.LaidMore
import Derived.SevenTiedAt
namespace Go.Proofs.YtllkmclobkamkaaGreatDoor.nodeNobody
open Go.ChangeShapes Go.WideShapes Go.ChangeAt Go.RowKit Go.AX
set_option linter.unusedVariables false

theorem own : ownKnob Tryz.prog.godebug = none := by kernel_rfl
theorem laidOut : laidOutB Tryz.prog = true := factsNode.k2

def laid : List (String × DataW Unit) := [("raceway/crc.half", Rows.laid_raceway_crc_half)]
def half : List Int := [0, 498536548, 997073096, 651767980, 1994146192, 1802195444, 1303535960, 1342533948, 3988292384, 4027552580, 3604390888, 3412177804, 2607071920, 2262029012, 2685067896, 3183342108]

theorem half_cells {W : World} (h : laidMetH Tryz.prog laid W) : ∀ (j : Nat) m, half[j]? = some m → W.cell? ⟨0, j, none⟩ = some (.int .u32 m) := by
  rw [MakeChecks.laidMetH_plain _ _ _ (by kernel_rfl)] at h
  exact cells_of_laid (name := "raceway/crc.half") (t := 284) (n := 16) (e := 240) h (List.mem_singleton.2 rfl) (by kernel_rfl) (by kernel_rfl) Tryz.underlying284 Tryz.underlying240 (by kernel_rfl)

theorem round_cells {W : World} (h : W.ShapedOpen Tryz.prog) : ∀ j, j < 64 → ∃ m : Int, W.cell? ⟨1, j, none⟩ = some (.int .u32 m) ∧ IntKind.u32.has m :=
  cells_of_shape (g := 1) (n := 64) (t := 475) (zero := ⟨repeatL 64 [.int .u32 0]⟩) (ts := repeatL 64 [240]) h (of_decide_eq_true (by kernel_rfl)) (by kernel_rfl) (by kernel_rfl) (by kernel_rfl) (by kernel_rfl) (by kernel_rfl)

theorem small {W : World} (h : W.ShapedOpen Tryz.prog) (hl : laidMetH Tryz.prog laid W) : ∀ b, (b = 0 ∨ b = 1) → b < W.heap.size := by
  have h0 := glob_small (half_cells hl 0 _ rfl)
  obtain ⟨m, hm, _⟩ := round_cells h 0 (by omega)
  have h1 := glob_small hm
  rintro b (rfl | rfl)
  · exact h0 0 rfl
  · exact h1 1 rfl

theorem glob_ok {W : World} (h : W.ShapedOpen Tryz.prog) (hl : laidMetH Tryz.prog laid W) : GlobOk runNode.cfg (.start fun b => b = 0 ∨ b = 1) W := by
  refine globOk_of fun g cs hg => ?_
  have hm := globOf_mem (l := runNode.globs) hg
  simp only [runNode.globs, List.mem_cons, List.not_mem_nil, or_false, Prod.mk.injEq] at hm
  rcases hm with ⟨rfl, rfl⟩ | ⟨rfl, rfl⟩
  · obtain ⟨vs, e1, e2⟩ := ints_of_cells (G := .start fun b => b = 0 ∨ b = 1) (half_cells hl)
    exact ⟨.inl rfl, vs, e1, e2⟩
  · obtain ⟨vs, e1, e2⟩ := rngs_of_cells (k := .u32) rfl (G := .start fun b => b = 0 ∨ b = 1) 64 0 (fun j hj => by rw [Nat.zero_add]; exact round_cells h j hj)
    exact ⟨.inr rfl, vs, e1, e2⟩

set_option maxRecDepth 100000 in
theorem walk (v0 v1 : Value) (W : World) (base : Nat) (hl : laidMetH Tryz.prog laid W) (hsh : W.ShapedOpen Tryz.prog) (h0 : Value.okWide Tryz.prog W .any base 24 v0) (h1 : Value.okWide Tryz.prog W .any base 47 v1) :
    Calls Tryz.prog 3 #[v0, v1] W fun e w' => e = .returned (.bool true) ∧ Below W.heap.size W w' := by
  have ha : RepL (.start fun b => b = 0 ∨ b = 1) W runNode.rootArgs [v0, v1] := by
    show RepL _ W [.agg (repeatL 8 [.one]), .agg (repeatL 45 [.one])] [v0, v1]
    simp only [RepL]
    exact ⟨v0, [v1], rfl, rep_struct Tryz.underlying24 (by kernel_rfl) h0, v1, [], rfl, rep_struct Tryz.underlying47 (by kernel_rfl) h1, rfl⟩
  exact callsK_true (C := runNode.cfg) runNode.mixed runNode.ext_ok runNode.q5_ok (small hsh hl) (glob_ok hsh hl) ha runNode.root

theorem laid1 (os : Os) (args : Array Value) : laidMet Tryz.prog laid ((World.doorLaid Tryz.prog 400 os).forCall (fun _ _ => 0) ⟨#[], args, []⟩).memory := laidMet_of_run' 8 (by kernel_rfl) (by kernel_rfl)
theorem door_met (os : Os) (args : Array Value) : laidMetH Tryz.prog laid ((World.doorLaid Tryz.prog 400 os).forCall (fun _ _ => 0) ⟨#[], args, []⟩).memory :=
  laidMetH_of_parts3 (fuel := 8) (laidMet_of_run' 8 (by kernel_rfl) (by kernel_rfl)) (by kernel_rfl) (by kernel_rfl)

noncomputable def zeroV (t : TypeId) : Value := ((Tryz.prog.info? t).bind (·.zero)).getD undef

theorem noInit : Tryz.prog.inits.idxOf? 3 = none := by kernel_rfl
theorem shaped1 (os : Os) : ((World.doorLaid Tryz.prog 400 os).forCall (fun _ _ => 0) ⟨#[], #[zeroV 24, zeroV 47], []⟩).Shaped Tryz.prog := World.shaped_of_RefB (by kernel_rfl) (by kernel_rfl)
theorem rd24 : Tryz.prog.readableRec 24 = true := by kernel_rfl
theorem rd47 : Tryz.prog.readableRec 47 = true := by kernel_rfl
theorem lt24 : 24 < Tryz.prog.types.size := of_decide_eq_true (by kernel_rfl)
theorem lt47 : 47 < Tryz.prog.types.size := of_decide_eq_true (by kernel_rfl)

set_option maxRecDepth 100000 in
theorem lifted (os : Os) (started : os.Started) (H : Type) (enc : TypeId × Value → H) :
    ReturnsInHanded {} Tryz.checked os 3 .any (fun w args => (Rows.nodeNobodySpec.pre enc Tryz.prog Tryz.f3 [] false w args ∧ laidMetH Tryz.prog laid w) ∧ sizedMet enc Tryz.prog Tryz.f3 (OpenSpec.ofChange Rows.nodeNobodySpec) false w args)
      (Rows.nodeNobodySpec.post enc Tryz.prog Tryz.f3 false true false false) := by
  refine handed_full (C := Tryz.checked) (X := fun w _ => laidMetH Tryz.prog laid w) (fun _ _ _ hh h => h.of_heap hh) own started noInit Tryz.func3
    (ChangeSpec.witness_shaped (enc := enc) (C := Tryz.checked) (os := os) (X := fun w _ => laidMetH Tryz.prog laid w) false (World.doorLaid Tryz.prog 400 os) #[zeroV 24, zeroV 47] 8 rfl (World.shaped_of_RefB (by kernel_rfl) (by kernel_rfl)) (by kernel_rfl) (by kernel_rfl) (by kernel_rfl) (door_met os _)) ?_
  intro W base args ds gs before hval0 hW _ hL hsh
  have hval : ∀ (j : Nat) t v, Tryz.f3.params[j]? = some t → args[j]? = some v → Value.okWide Tryz.prog W .any base t v := hval0
  have hW' := hW
  obtain ⟨p, q, hA0, hV, rfl, hfz, hnd⟩ := hW
  have hA : DataW.TrodAll enc Tryz.prog W 0 (fun _ => true) true Tryz.f3.params.toList args.toList ds p := hA0
  rw [Tryz.params3] at hA hval
  obtain ⟨v0, vs0, d0, ds0, p0, q0, hargs, rfl, rfl, h0, r0⟩ := trodAll_cons hA
  obtain ⟨v1, vs1, d1, ds1, p1, q1, rfl, rfl, rfl, h1, r1⟩ := trodAll_cons r0
  obtain ⟨rfl, rfl, rfl⟩ := trodAll_nil r1
  obtain rfl : args = #[v0, v1] := by cases args; simp_all
  obtain ⟨rfl, rfl⟩ := trodVars_none hV
  have k0 := h0
  have k1 := h1
  have lt0 : ∀ x ∈ p0, x.block < W.heap.size := by obtain ⟨m, hm⟩ := k0; exact DataW.trod_lt m _ _ _ hm
  have lt1 : ∀ x ∈ p1, x.block < W.heap.size := by obtain ⟨m, hm⟩ := k1; exact DataW.trod_lt m _ _ _ hm
  refine (walk v0 v1 W base hL hsh (hval 0 24 v0 rfl rfl) (hval 1 47 v1 rfl rfl)).mono fun e W' ⟨he, bel⟩ => ?_
  subst he
  exact ⟨_, rfl, _, _, _, [], _, [], hW', trodAll_mk1 (shut_bool Tryz.underlying4 _),
    (trodAll_cons_mk (Below.trod laidOut rd24 lt24 k0 bel lt0) (trodAll_cons_mk (Below.trod laidOut rd47 lt47 k1 bel lt1) trodAll_mk0)), rfl, bel.frame _, fun h => by cases h⟩

theorem named : Tryz.prog.funcNamed "raceway/racewaylaw17.NodeNobody" = some 3 := by kernel_rfl
theorem inst : Tryz.f3.isInstance Tryz.prog Rows.nodeNobodyRow.origin Rows.nodeNobodyRow.targs := of_decide_eq_true (by kernel_rfl)
theorem wrap : Tryz.f3.isWrapper Tryz.prog Rows.nodeNobodyRow.wrapper Rows.nodeNobodyRow.mainSum := by
  unfold Func.isWrapper; first | (rw [if_pos (by decide +kernel)]; kernel_rfl) | (rw [if_neg (by decide +kernel)]; exact ⟨rfl, rfl⟩)
theorem over : Rows.NodeNobodySaid :=
  OpenClaim.holds_of_wide 3 Tryz.f3 rfl rfl rfl rfl rfl rfl rfl ⟨rfl, rfl, rfl, rfl, rfl⟩ rfl rfl rfl rfl rfl named Tryz.func3 factsNode.facts
    inst wrap (fun os started H enc _ => lifted os started H enc)
end Go.Proofs.YtllkmclobkamkaaGreatDoor.nodeNobody
namespace Go.Proofs.YtllkmclobkamkaaGreatDoor
open nodeNobody
theorem nodeNobody_card : Rows.NodeNobodyCardSaid :=
  Claim7.holds_tied_plain_at .later [] [.data] true (true, "98012a89fbac76627bbdd0ab4294bc84d88acd64c805a88aa659c8b06c35af88") true
    over (fun _ h => by cases h) (by kernel_rfl) (fun _ h => by cases h) nodeNobody_row_tie rfl ⟨rfl, rfl⟩ (by kernel_rfl) rfl
    (fun f fn hf hfn => by
      obtain rfl : f = 3 := Option.some.inj (named.symm.trans hf) |>.symm
      obtain rfl : fn = Tryz.f3 := (Option.some.inj (Tryz.func3.symm.trans hfn)).symm
      exact ⟨by kernel_rfl, fun j t ht => by
        rw [Tryz.params3] at ht
        match j, ht with
        | 0, ht => obtain rfl : 24 = t := by simpa using ht
                   exact (show Tryz.prog.wantsStandIn 24 = false by kernel_rfl)
        | 1, ht => obtain rfl : 47 = t := by simpa using ht
                   exact (show Tryz.prog.wantsStandIn 47 = false by kernel_rfl)
        | j + 2, ht => simp at ht⟩)
    (by kernel_rfl)
#print axioms nodeNobody_card
end Go.Proofs.YtllkmclobkamkaaGreatDoor
