/- What the executor AX says of calls of YtllkmclobkamkaaGreatDoor's program: closed facts, by the kernel. No condition. -/
import Derived.Test.YtllkmclobkamkaaGreatDoorAx4
import Derived.Test.YtllkmclobkamkaaGreatDoorProg
import Derived.KernelRfl
namespace Go.Proofs.YtllkmclobkamkaaGreatDoor.runNode
open Go.AX
set_option linter.unusedVariables false
def gi (n : Int) : AV := .int .i64 n
def exts : Exts where
  noEscape := none
  indexByte := none
  countString := none
  makeNoZero := none
  u8 := 5
def globs : List (Nat × List AV) := [(0, [0, 498536548, 997073096, 651767980, 1994146192, 1802195444, 1303535960, 1342533948, 3988292384, 4027552580, 3604390888, 3412177804, 2607071920, 2262029012, 2685067896, 3183342108].map fun n => .int .u32 n), (1, repeatL 64 [.rng .u32 4294967295])]
noncomputable def cfg : Cfg where
  P := Tryz.prog
  ext := exts.ext
  glob := globOf (globs)
theorem mixed : Tryz.prog.follows .mixedOrders = true := by kernel_rfl
theorem ext_ok : ExtOk cfg := exts_ok exts rfl
  (fun f h => by cases h)
  (fun f h => by cases h)
  (fun f h => by cases h)
  (fun f h => by cases h)
def mem0 : Memo := ⟨388, [.rng .u32 4294967295, gi (-22)], .rng .u32 4294967295⟩
theorem mem0_ran : mem0.ran (callK cfg noPrims 1000000 1000) = true := by kernel_rfl
def mem1 : Memo := ⟨388, [.rng .u32 4294967295, gi (-13)], .rng .u32 4294967295⟩
theorem mem1_ran : mem1.ran (callK cfg noPrims 1000000 1000) = true := by kernel_rfl
def mem2 : Memo := ⟨388, [.rng .u32 4294967295, gi (-2)], .rng .u32 4294967295⟩
theorem mem2_ran : mem2.ran (callK cfg noPrims 1000000 1000) = true := by kernel_rfl
def mem3 : Memo := ⟨388, [.rng .u32 4294967295, gi (-25)], .rng .u32 4294967295⟩
theorem mem3_ran : mem3.ran (callK cfg noPrims 1000000 1000) = true := by kernel_rfl
def mem4 : Memo := ⟨388, [.rng .u32 4294967295, gi (-11)], .rng .u32 4294967295⟩
theorem mem4_ran : mem4.ran (callK cfg noPrims 1000000 1000) = true := by kernel_rfl
def mem5 : Memo := ⟨388, [.rng .u32 4294967295, gi (-6)], .rng .u32 4294967295⟩
theorem mem5_ran : mem5.ran (callK cfg noPrims 1000000 1000) = true := by kernel_rfl
def mem6 : Memo := ⟨388, [.rng .u32 4294967295, gi (-19)], .rng .u32 4294967295⟩
theorem mem6_ran : mem6.ran (callK cfg noPrims 1000000 1000) = true := by kernel_rfl
def mem7 : Memo := ⟨388, [.rng .u32 4294967295, gi (-17)], .rng .u32 4294967295⟩
theorem mem7_ran : mem7.ran (callK cfg noPrims 1000000 1000) = true := by kernel_rfl
def mem8 : Memo := ⟨388, [.rng .u32 4294967295, gi (-18)], .rng .u32 4294967295⟩
theorem mem8_ran : mem8.ran (callK cfg noPrims 1000000 1000) = true := by kernel_rfl
def mem9 : Memo := ⟨388, [.rng .u32 4294967295, gi (-7)], .rng .u32 4294967295⟩
theorem mem9_ran : mem9.ran (callK cfg noPrims 1000000 1000) = true := by kernel_rfl
theorem flats : ∀ g cs, cfg.glob g = some cs → ∀ v ∈ cs, flat v = true := globOf_flat (l := globs) (by kernel_rfl)
noncomputable def p0 : CallF := (orElse mem9.take (orElse mem8.take (orElse mem7.take (orElse mem6.take (orElse mem5.take (orElse mem4.take (orElse mem3.take (orElse mem2.take (orElse mem1.take (orElse mem0.take noPrims))))))))))
theorem p0_ok : ∀ B, CallOk cfg B p0 := fun B => orElse_ok (mem9.ok (callK_ok (C := cfg) mixed ext_ok (fun B => noPrims_ok) _ _) flats mem9_ran) (orElse_ok (mem8.ok (callK_ok (C := cfg) mixed ext_ok (fun B => noPrims_ok) _ _) flats mem8_ran) (orElse_ok (mem7.ok (callK_ok (C := cfg) mixed ext_ok (fun B => noPrims_ok) _ _) flats mem7_ran) (orElse_ok (mem6.ok (callK_ok (C := cfg) mixed ext_ok (fun B => noPrims_ok) _ _) flats mem6_ran) (orElse_ok (mem5.ok (callK_ok (C := cfg) mixed ext_ok (fun B => noPrims_ok) _ _) flats mem5_ran) (orElse_ok (mem4.ok (callK_ok (C := cfg) mixed ext_ok (fun B => noPrims_ok) _ _) flats mem4_ran) (orElse_ok (mem3.ok (callK_ok (C := cfg) mixed ext_ok (fun B => noPrims_ok) _ _) flats mem3_ran) (orElse_ok (mem2.ok (callK_ok (C := cfg) mixed ext_ok (fun B => noPrims_ok) _ _) flats mem2_ran) (orElse_ok (mem1.ok (callK_ok (C := cfg) mixed ext_ok (fun B => noPrims_ok) _ _) flats mem1_ran) (orElse_ok (mem0.ok (callK_ok (C := cfg) mixed ext_ok (fun B => noPrims_ok) _ _) flats mem0_ran) (noPrims_ok))))))))))
/-- (*raceway/node.Node).Tick -/
noncomputable def q0 : CallF := p0
theorem q0_ok : ∀ B, CallOk cfg B q0 := fun B => p0_ok B
def c0 : Chunk := ⟨5, [.ptr 102 0], 349, [(101, .cells [gi 30, gi 500, gi 2, gi 1, gi 10, gi 1000, gi 0, gi (-1)] 78 0 true),
    (102, .cells [gi 0, gi 1, gi 1, gi 0, gi 1, gi 8, gi 0, .slc 101 0 2 none 4, .slc 152 0 2 none 1, .map 153, .snil] 55 0 true),
    (104, .cells [gi 8, .snil, .bool false] 239 0 true),
    (105, .cells [.bool true, .bool false, .snil, gi 0] 127 0 true),
    (106, .map [] 0),
    (107, .cells [gi 8, .ptr 104 0, .ptr 105 0, gi 0, gi 0, .map 106] 192 0 true),
    (108, .cells [gi 0, gi 1, gi 1, gi 8, .ptr 107 0, gi 0, gi 0, gi (-1), gi 1, gi 0, gi 0, .map 109, .map 110, .map 111, gi 0, .snil, .bool true] 125 0 true),
    (109, .map [] 0),
    (110, .map [] 0),
    (111, .map [] 0),
    (120, .cells [.ptr 108 0, .iface 99 (.ptr 178 0), .ptr 126 0, .snil] 88 0 true),
    (126, .cells [.bool true, .bool false, .snil, gi 0] 127 0 true),
    (129, .cells [gi 8, .snil, .bool false] 239 0 true),
    (130, .cells [.bool true, .bool false, .snil, gi 0] 127 0 true),
    (131, .map [] 0),
    (132, .cells [gi 8, .ptr 129 0, .ptr 130 0, gi 0, gi 0, .map 131] 192 0 true),
    (133, .cells [gi 0, gi 1, gi 1, gi 8, .ptr 132 0, gi 0, gi 0, gi (-1), gi 1, gi 0, gi 0, .map 134, .map 135, .map 136, gi 0, .snil, .bool true] 125 0 true),
    (134, .map [] 0),
    (135, .map [] 0),
    (136, .map [] 0),
    (145, .cells [.ptr 133 0, .iface 64 (.ptr 234 0), .ptr 151 0, .snil] 88 0 true),
    (151, .cells [.bool true, .bool false, .snil, gi 0] 127 0 true),
    (152, .cells [.ptr 120 0, .ptr 145 0] 83 0 true),
    (153, .map [] 0),
    (175, .cells [gi 0, gi 65536, gi 1] 107 0 true),
    (177, .map [] 0),
    (178, .cells [gi 1, .slc 175 0 1 none 3, gi 0, .map 177] 173 0 true),
    (227, .cells [gi 30, gi 500, gi 2, gi 1, gi 10, gi 1000, gi 0, gi (-1)] 78 0 true),
    (229, .cells [gi 0, gi 65536] 32 0 true),
    (230, .map [] 0),
    (231, .cells [.slc 227 0 2 none 4, .slc 229 0 1 none 2, .map 230] 183 0 true),
    (232, .map [] 0),
    (233, .cells [.map 232] 186 0 true),
    (234, .cells [.ptr 231 0, .ptr 233 0, gi 0, gi 0] 117 0 true)],
    .ret (.snil), 793, [(101, .cells [gi 30, gi 500, gi 2, gi 1, gi 10, gi 1000, gi 0, gi (-1)] 78 0 true),
    (102, .cells [gi 0, gi 1, gi 1, gi 0, gi 1, gi 8, gi 0, .slc 101 0 2 none 4, .slc 152 0 2 none 1, .map 153, .snil] 55 0 true),
    (104, .cells [gi 8, .slc 431 0 1 none 1, .bool false] 239 0 true),
    (105, .cells [.bool true, .bool false, .snil, gi 0] 127 0 true),
    (106, .map [] 0),
    (107, .cells [gi 8, .ptr 104 0, .ptr 105 0, gi 8, gi 0, .map 106] 192 0 true),
    (108, .cells [gi 0, gi 1, gi 1, gi 8, .ptr 107 0, gi 2, gi 8, gi 0, gi 0, gi 0, gi 0, .map 463, .map 477, .map 111, gi 0, .snil, .bool true] 125 0 true),
    (109, .map [] 0),
    (110, .map [] 0),
    (111, .map [] 0),
    (120, .cells [.ptr 108 0, .iface 99 (.ptr 178 0), .ptr 126 0, .snil] 88 0 true),
    (126, .cells [.bool true, .bool false, .snil, gi 0] 127 0 true),
    (129, .cells [gi 8, .slc 653 0 1 none 1, .bool false] 239 0 true),
    (130, .cells [.bool true, .bool false, .snil, gi 0] 127 0 true),
    (131, .map [] 0),
    (132, .cells [gi 8, .ptr 129 0, .ptr 130 0, gi 8, gi 0, .map 131] 192 0 true),
    (133, .cells [gi 0, gi 1, gi 1, gi 8, .ptr 132 0, gi 2, gi 8, gi 0, gi 0, gi 0, gi 0, .map 685, .map 699, .map 136, gi 0, .snil, .bool true] 125 0 true),
    (134, .map [] 0),
    (135, .map [] 0),
    (136, .map [] 0),
    (145, .cells [.ptr 133 0, .iface 64 (.ptr 234 0), .ptr 151 0, .snil] 88 0 true),
    (151, .cells [.bool true, .bool false, .snil, gi 0] 127 0 true),
    (152, .cells [.ptr 120 0, .ptr 145 0] 83 0 true),
    (153, .map [] 0),
    (175, .cells [gi 0, gi 65536, gi 1] 107 0 true),
    (177, .map [] 0),
    (178, .cells [gi 1, .slc 175 0 1 none 3, gi 0, .map 177] 173 0 true),
    (227, .cells [gi 30, gi 500, gi 2, gi 1, gi 10, gi 1000, gi 0, gi (-1)] 78 0 true),
    (229, .cells [gi 0, gi 65536] 32 0 true),
    (230, .map [] 0),
    (231, .cells [.slc 227 0 2 none 4, .slc 229 0 1 none 2, .map 230] 183 0 true),
    (232, .map [] 0),
    (233, .cells [.map 232] 186 0 true),
    (234, .cells [.ptr 231 0, .ptr 233 0, gi 0, gi 0] 117 0 true),
    (408, .cells [.bool true, .bool false, .slc 432 0 27 none 1, gi 27] 127 0 true),
    (409, .cells [.ptr 408 0, gi 0, .slc 447 0 1 none 1, gi 1] 267 0 true),
    (431, .cells [.ptr 409 0] 264 0 true),
    (432, .cells [.int .u8 1, .int .u8 0, .int .u8 0, .int .u8 0, .int .u8 121, .int .u8 184, .int .u8 248, .int .u8 153, .int .u8 141, .int .u8 239, .int .u8 2, .int .u8 210, .int .u8 0, .int .u8 2, .int .u8 0, .int .u8 0, .int .u8 0, .int .u8 151, .int .u8 23, .int .u8 77, .int .u8 139, .int .u8 140, .int .u8 171, .int .u8 25, .int .u8 86, .int .u8 1, .int .u8 8] 5 0 true),
    (446, .cells [.int .u8 1, .int .u8 8] 5 0 true),
    (447, .cells [.slc 446 0 2 none 1] 25 0 true),
    (463, .map [(gi 0, .snil, 0)] 1),
    (477, .map [] 0),
    (630, .cells [.bool true, .bool false, .slc 654 0 27 none 1, gi 27] 127 0 true),
    (631, .cells [.ptr 630 0, gi 0, .slc 669 0 1 none 1, gi 1] 267 0 true),
    (653, .cells [.ptr 631 0] 264 0 true),
    (654, .cells [.int .u8 1, .int .u8 0, .int .u8 0, .int .u8 0, .int .u8 121, .int .u8 184, .int .u8 248, .int .u8 153, .int .u8 141, .int .u8 239, .int .u8 2, .int .u8 210, .int .u8 0, .int .u8 2, .int .u8 0, .int .u8 0, .int .u8 0, .int .u8 151, .int .u8 23, .int .u8 77, .int .u8 139, .int .u8 140, .int .u8 171, .int .u8 25, .int .u8 86, .int .u8 1, .int .u8 8] 5 0 true),
    (668, .cells [.int .u8 1, .int .u8 8] 5 0 true),
    (669, .cells [.slc 668 0 2 none 1] 25 0 true),
    (685, .map [(gi 0, .snil, 0)] 1),
    (699, .map [] 0)]⟩
theorem c0_ran : c0.ran (callK cfg q0 1000000 1000) = true := by kernel_rfl
theorem c0_ok : ∀ B, CallOk cfg B c0.take := fun B => c0.ok (callK_ok mixed (ext_ok) (q0_ok) _ _ B) (c0_ran)
/-- (*raceway/digest.Hash).mix -/
noncomputable def q1 : CallF := p0
theorem q1_ok : ∀ B, CallOk cfg B q1 := fun B => p0_ok B
def c1 : Chunk := ⟨383, [.ptr 1330 0], 2150, [(1330, .cells [.bool true, .int .u32 1779033703, .int .u32 3144134277, .int .u32 1013904242, .int .u32 2773480762, .int .u32 1359893119, .int .u32 2600822924, .int .u32 528734635, .int .u32 1541459225, .int .u8 98, .int .u8 128, .int .u8 0, .int .u8 0, .int .u8 0, .int .u8 0, .int .u8 0, .int .u8 0, .int .u8 0, .int .u8 0, .int .u8 0, .int .u8 0, .int .u8 0, .int .u8 0, .int .u8 0, .int .u8 0, .int .u8 0, .int .u8 0, .int .u8 0, .int .u8 0, .int .u8 0, .int .u8 0, .int .u8 0, .int .u8 0, .int .u8 0, .int .u8 0, .int .u8 0, .int .u8 0, .int .u8 0, .int .u8 0, .int .u8 0, .int .u8 0, .int .u8 0, .int .u8 0, .int .u8 0, .int .u8 0, .int .u8 0, .int .u8 0, .int .u8 0, .int .u8 0, .int .u8 0, .int .u8 0, .int .u8 0, .int .u8 0, .int .u8 0, .int .u8 0, .int .u8 0, .int .u8 0, .int .u8 0, .int .u8 0, .int .u8 0, .int .u8 0, .int .u8 0, .int .u8 0, .int .u8 0, .int .u8 0, .int .u8 0, .int .u8 0, .int .u8 0, .int .u8 0, .int .u8 0, .int .u8 0, .int .u8 0, .int .u8 8, gi 64] 472 0 true)],
    .ret (.tuple []), 8856, [(1330, .cells [.bool true, .rng .u32 4294967295, .rng .u32 4294967295, .rng .u32 4294967295, .rng .u32 4294967295, .rng .u32 4294967295, .rng .u32 4294967295, .rng .u32 4294967295, .rng .u32 4294967295, .int .u8 98, .int .u8 128, .int .u8 0, .int .u8 0, .int .u8 0, .int .u8 0, .int .u8 0, .int .u8 0, .int .u8 0, .int .u8 0, .int .u8 0, .int .u8 0, .int .u8 0, .int .u8 0, .int .u8 0, .int .u8 0, .int .u8 0, .int .u8 0, .int .u8 0, .int .u8 0, .int .u8 0, .int .u8 0, .int .u8 0, .int .u8 0, .int .u8 0, .int .u8 0, .int .u8 0, .int .u8 0, .int .u8 0, .int .u8 0, .int .u8 0, .int .u8 0, .int .u8 0, .int .u8 0, .int .u8 0, .int .u8 0, .int .u8 0, .int .u8 0, .int .u8 0, .int .u8 0, .int .u8 0, .int .u8 0, .int .u8 0, .int .u8 0, .int .u8 0, .int .u8 0, .int .u8 0, .int .u8 0, .int .u8 0, .int .u8 0, .int .u8 0, .int .u8 0, .int .u8 0, .int .u8 0, .int .u8 0, .int .u8 0, .int .u8 0, .int .u8 0, .int .u8 0, .int .u8 0, .int .u8 0, .int .u8 0, .int .u8 0, .int .u8 8, gi 64] 472 0 true)]⟩
theorem c1_ran : c1.ran (callK cfg q1 1000000 1000) = true := by kernel_rfl
theorem c1_ok : ∀ B, CallOk cfg B c1.take := fun B => c1.ok (callK_ok mixed (ext_ok) (q1_ok) _ _ B) (c1_ran)
/-- (*raceway/digest.Hash).Sum -/
noncomputable def q2 : CallF := (orElse c1.take p0)
theorem q2_ok : ∀ B, CallOk cfg B q2 := fun B => orElse_ok (c1_ok B) (p0_ok B)
def c2 : Chunk := ⟨372, [.ptr 1315 0], 1328, [(1315, .cells [.bool true, .int .u32 1779033703, .int .u32 3144134277, .int .u32 1013904242, .int .u32 2773480762, .int .u32 1359893119, .int .u32 2600822924, .int .u32 528734635, .int .u32 1541459225, .int .u8 98, .int .u8 0, .int .u8 0, .int .u8 0, .int .u8 0, .int .u8 0, .int .u8 0, .int .u8 0, .int .u8 0, .int .u8 0, .int .u8 0, .int .u8 0, .int .u8 0, .int .u8 0, .int .u8 0, .int .u8 0, .int .u8 0, .int .u8 0, .int .u8 0, .int .u8 0, .int .u8 0, .int .u8 0, .int .u8 0, .int .u8 0, .int .u8 0, .int .u8 0, .int .u8 0, .int .u8 0, .int .u8 0, .int .u8 0, .int .u8 0, .int .u8 0, .int .u8 0, .int .u8 0, .int .u8 0, .int .u8 0, .int .u8 0, .int .u8 0, .int .u8 0, .int .u8 0, .int .u8 0, .int .u8 0, .int .u8 0, .int .u8 0, .int .u8 0, .int .u8 0, .int .u8 0, .int .u8 0, .int .u8 0, .int .u8 0, .int .u8 0, .int .u8 0, .int .u8 0, .int .u8 0, .int .u8 0, .int .u8 0, .int .u8 0, .int .u8 0, .int .u8 0, .int .u8 0, .int .u8 0, .int .u8 0, .int .u8 0, .int .u8 0, gi 1] 472 0 true)],
    .ret (.agg [.rng .u8 255, .rng .u8 255, .rng .u8 255, .rng .u8 255, .rng .u8 255, .rng .u8 255, .rng .u8 255, .rng .u8 255, .rng .u8 255, .rng .u8 255, .rng .u8 255, .rng .u8 255, .rng .u8 255, .rng .u8 255, .rng .u8 255, .rng .u8 255, .rng .u8 255, .rng .u8 255, .rng .u8 255, .rng .u8 255, .rng .u8 255, .rng .u8 255, .rng .u8 255, .rng .u8 255, .rng .u8 255, .rng .u8 255, .rng .u8 255, .rng .u8 255, .rng .u8 255, .rng .u8 255, .rng .u8 255, .rng .u8 255]), 8856, [(1315, .cells [.bool true, .int .u32 1779033703, .int .u32 3144134277, .int .u32 1013904242, .int .u32 2773480762, .int .u32 1359893119, .int .u32 2600822924, .int .u32 528734635, .int .u32 1541459225, .int .u8 98, .int .u8 0, .int .u8 0, .int .u8 0, .int .u8 0, .int .u8 0, .int .u8 0, .int .u8 0, .int .u8 0, .int .u8 0, .int .u8 0, .int .u8 0, .int .u8 0, .int .u8 0, .int .u8 0, .int .u8 0, .int .u8 0, .int .u8 0, .int .u8 0, .int .u8 0, .int .u8 0, .int .u8 0, .int .u8 0, .int .u8 0, .int .u8 0, .int .u8 0, .int .u8 0, .int .u8 0, .int .u8 0, .int .u8 0, .int .u8 0, .int .u8 0, .int .u8 0, .int .u8 0, .int .u8 0, .int .u8 0, .int .u8 0, .int .u8 0, .int .u8 0, .int .u8 0, .int .u8 0, .int .u8 0, .int .u8 0, .int .u8 0, .int .u8 0, .int .u8 0, .int .u8 0, .int .u8 0, .int .u8 0, .int .u8 0, .int .u8 0, .int .u8 0, .int .u8 0, .int .u8 0, .int .u8 0, .int .u8 0, .int .u8 0, .int .u8 0, .int .u8 0, .int .u8 0, .int .u8 0, .int .u8 0, .int .u8 0, .int .u8 0, gi 1] 472 0 true)]⟩
theorem c2_ran : c2.ran (callK cfg q2 1000000 1000) = true := by kernel_rfl
theorem c2_ok : ∀ B, CallOk cfg B c2.take := fun B => c2.ok (callK_ok mixed (ext_ok) (q2_ok) _ _ B) (c2_ran)
/-- (*raceway/node.Node).apply -/
noncomputable def q3 : CallF := (orElse c2.take p0)
theorem q3_ok : ∀ B, CallOk cfg B q3 := fun B => orElse_ok (c2_ok B) (p0_ok B)
def c3 : Chunk := ⟨25, [.ptr 102 0, gi 1], 1172, [(101, .cells [gi 30, gi 500, gi 2, gi 1, gi 10, gi 1000, gi 0, gi (-1)] 78 0 true),
    (102, .cells [gi 0, gi 1, gi 1, gi 0, gi 1, gi 8, gi 0, .slc 101 0 2 none 4, .slc 152 0 2 none 1, .map 153, .snil] 55 0 true),
    (104, .cells [gi 8, .slc 431 0 1 none 1, .bool false] 239 0 true),
    (105, .cells [.bool true, .bool false, .snil, gi 0] 127 0 true),
    (106, .map [] 0),
    (107, .cells [gi 8, .ptr 104 0, .ptr 105 0, gi 8, gi 0, .map 106] 192 0 true),
    (108, .cells [gi 0, gi 1, gi 1, gi 8, .ptr 107 0, gi 2, gi 8, gi 0, gi 0, gi 0, gi 0, .map 463, .map 477, .map 111, gi 0, .snil, .bool true] 125 0 true),
    (111, .map [] 0),
    (120, .cells [.ptr 108 0, .iface 99 (.ptr 178 0), .ptr 126 0, .snil] 88 0 true),
    (126, .cells [.bool true, .bool false, .snil, gi 0] 127 0 true),
    (129, .cells [gi 8, .slc 653 0 1 none 1, .bool false] 239 0 true),
    (130, .cells [.bool true, .bool false, .snil, gi 0] 127 0 true),
    (131, .map [(gi 0, .agg [gi 8, .slc 1056 0 21 none 1], 0)] 1),
    (132, .cells [gi 8, .ptr 129 0, .ptr 130 0, gi 8, gi 0, .map 131] 192 0 true),
    (133, .cells [gi 0, gi 1, gi 1, gi 8, .ptr 132 0, gi 2, gi 8, gi 0, gi 0, gi 0, gi 1, .map 685, .map 699, .map 136, gi 1, .snil, .bool true] 125 0 true),
    (136, .map [(gi 0, .slc 1106 0 21 none 1, 0)] 1),
    (145, .cells [.ptr 133 0, .iface 64 (.ptr 234 0), .ptr 151 0, .snil] 88 0 true),
    (151, .cells [.bool true, .bool false, .snil, gi 0] 127 0 true),
    (152, .cells [.ptr 120 0, .ptr 145 0] 83 0 true),
    (153, .map [(.agg [gi 1, gi 1, gi 1], .agg [], 0)] 1),
    (175, .cells [gi 0, gi 65536, gi 1] 107 0 true),
    (177, .map [] 0),
    (178, .cells [gi 1, .slc 175 0 1 none 3, gi 0, .map 177] 173 0 true),
    (227, .cells [gi 30, gi 500, gi 2, gi 1, gi 10, gi 1000, gi 0, gi (-1)] 78 0 true),
    (229, .cells [gi 0, gi 65536] 32 0 true),
    (230, .map [] 0),
    (231, .cells [.slc 227 0 2 none 4, .slc 229 0 1 none 2, .map 230] 183 0 true),
    (232, .map [] 0),
    (233, .cells [.map 232] 186 0 true),
    (234, .cells [.ptr 231 0, .ptr 233 0, gi 0, gi 0] 117 0 true),
    (408, .cells [.bool true, .bool false, .slc 432 0 27 none 1, gi 27] 127 0 true),
    (409, .cells [.ptr 408 0, gi 0, .slc 447 0 1 none 1, gi 1] 267 0 true),
    (431, .cells [.ptr 409 0] 264 0 true),
    (432, .cells [.int .u8 1, .int .u8 0, .int .u8 0, .int .u8 0, .int .u8 121, .int .u8 184, .int .u8 248, .int .u8 153, .int .u8 141, .int .u8 239, .int .u8 2, .int .u8 210, .int .u8 0, .int .u8 2, .int .u8 0, .int .u8 0, .int .u8 0, .int .u8 151, .int .u8 23, .int .u8 77, .int .u8 139, .int .u8 140, .int .u8 171, .int .u8 25, .int .u8 86, .int .u8 1, .int .u8 8] 5 0 true),
    (446, .cells [.int .u8 1, .int .u8 8] 5 0 true),
    (447, .cells [.slc 446 0 2 none 1] 25 0 true),
    (463, .map [(gi 0, .snil, 0)] 1),
    (477, .map [] 0),
    (630, .cells [.bool true, .bool false, .slc 1016 0 63 none 1, gi 63] 127 0 true),
    (631, .cells [.ptr 630 0, gi 0, .slc 1031 0 2 none 1, gi 2] 267 0 true),
    (653, .cells [.ptr 631 0] 264 0 true),
    (668, .cells [.int .u8 1, .int .u8 8] 5 0 true),
    (685, .map [(gi 0, .snil, 0)] 1),
    (699, .map [(gi 0, .ptr 1059 0, 0)] 1),
    (1016, .cells [.int .u8 1, .int .u8 0, .int .u8 0, .int .u8 0, .int .u8 121, .int .u8 184, .int .u8 248, .int .u8 153, .int .u8 141, .int .u8 239, .int .u8 2, .int .u8 210, .int .u8 0, .int .u8 2, .int .u8 0, .int .u8 0, .int .u8 0, .int .u8 151, .int .u8 23, .int .u8 77, .int .u8 139, .int .u8 140, .int .u8 171, .int .u8 25, .int .u8 86, .int .u8 1, .int .u8 8, .int .u8 24, .int .u8 0, .int .u8 0, .int .u8 0, .int .u8 108, .int .u8 160, .int .u8 233, .int .u8 180, .int .u8 192, .int .u8 71, .int .u8 63, .int .u8 139, .int .u8 2, .int .u8 0, .int .u8 8, .int .u8 1, .int .u8 1, .int .u8 1, .int .u8 7, .int .u8 0, .int .u8 1, .int .u8 103, .int .u8 1, .int .u8 98, .int .u8 0, .int .u8 0, .int .u8 0, .int .u8 0, .int .u8 0, .int .u8 0, .int .u8 0, .int .u8 0, .int .u8 0, .int .u8 0, .int .u8 0, .int .u8 0] 5 0 true),
    (1030, .cells [.int .u8 2, .int .u8 0, .int .u8 8, .int .u8 1, .int .u8 1, .int .u8 1, .int .u8 7, .int .u8 0, .int .u8 1, .int .u8 103, .int .u8 1, .int .u8 98, .int .u8 0, .int .u8 0, .int .u8 0, .int .u8 0, .int .u8 0, .int .u8 0, .int .u8 0, .int .u8 0, .int .u8 0, .int .u8 0, .int .u8 0, .int .u8 0] 5 0 true),
    (1031, .cells [.slc 668 0 2 none 1, .slc 1030 0 24 none 1] 25 0 true),
    (1056, .cells [.int .u8 1, .int .u8 1, .int .u8 1, .int .u8 7, .int .u8 0, .int .u8 1, .int .u8 103, .int .u8 1, .int .u8 98, .int .u8 0, .int .u8 0, .int .u8 0, .int .u8 0, .int .u8 0, .int .u8 0, .int .u8 0, .int .u8 0, .int .u8 0, .int .u8 0, .int .u8 0, .int .u8 0] 5 0 true),
    (1058, .cells [.int .u8 1, .int .u8 1, .int .u8 1, .int .u8 7, .int .u8 0, .int .u8 1, .int .u8 103, .int .u8 1, .int .u8 98, .int .u8 0, .int .u8 0, .int .u8 0, .int .u8 0, .int .u8 0, .int .u8 0, .int .u8 0, .int .u8 0, .int .u8 0, .int .u8 0, .int .u8 0, .int .u8 0] 5 0 true),
    (1059, .cells [.slc 1058 0 21 none 1, .map 1076] 147 0 true),
    (1076, .map [(gi 0, .agg [], 0)] 1),
    (1106, .cells [.int .u8 1, .int .u8 1, .int .u8 1, .int .u8 7, .int .u8 0, .int .u8 1, .int .u8 103, .int .u8 1, .int .u8 98, .int .u8 0, .int .u8 0, .int .u8 0, .int .u8 0, .int .u8 0, .int .u8 0, .int .u8 0, .int .u8 0, .int .u8 0, .int .u8 0, .int .u8 0, .int .u8 0] 5 0 true)],
    .ret (.tuple []), 9167, [(101, .cells [gi 30, gi 500, gi 2, gi 1, gi 10, gi 1000, gi 0, gi (-1)] 78 0 true),
    (102, .cells [gi 0, gi 1, gi 1, gi 0, gi 1, gi 8, gi 0, .slc 101 0 2 none 4, .slc 152 0 2 none 1, .map 153, .slc 9141 0 1 none 40] 55 0 true),
    (104, .cells [gi 8, .slc 431 0 1 none 1, .bool false] 239 0 true),
    (105, .cells [.bool true, .bool false, .snil, gi 0] 127 0 true),
    (106, .map [] 0),
    (107, .cells [gi 8, .ptr 104 0, .ptr 105 0, gi 8, gi 0, .map 106] 192 0 true),
    (108, .cells [gi 0, gi 1, gi 1, gi 8, .ptr 107 0, gi 2, gi 8, gi 0, gi 0, gi 0, gi 0, .map 463, .map 477, .map 111, gi 0, .snil, .bool true] 125 0 true),
    (111, .map [] 0),
    (120, .cells [.ptr 108 0, .iface 99 (.ptr 178 0), .ptr 126 0, .snil] 88 0 true),
    (126, .cells [.bool true, .bool false, .snil, gi 0] 127 0 true),
    (129, .cells [gi 8, .slc 653 0 1 none 1, .bool false] 239 0 true),
    (130, .cells [.bool true, .bool false, .snil, gi 0] 127 0 true),
    (131, .map [(gi 0, .agg [gi 8, .slc 1056 0 21 none 1], 0)] 1),
    (132, .cells [gi 8, .ptr 129 0, .ptr 130 0, gi 8, gi 0, .map 131] 192 0 true),
    (133, .cells [gi 0, gi 1, gi 1, gi 8, .ptr 132 0, gi 2, gi 8, gi 0, gi 0, gi 0, gi 1, .map 685, .map 699, .map 136, gi 1, .snil, .bool true] 125 0 true),
    (136, .map [(gi 0, .slc 1106 0 21 none 1, 0)] 1),
    (145, .cells [.ptr 133 0, .iface 64 (.ptr 234 0), .ptr 151 0, .slc 9097 0 1 none 28] 88 0 true),
    (151, .cells [.bool true, .bool false, .snil, gi 0] 127 0 true),
    (152, .cells [.ptr 120 0, .ptr 145 0] 83 0 true),
    (153, .map [] 1),
    (175, .cells [gi 0, gi 65536, gi 1] 107 0 true),
    (177, .map [] 0),
    (178, .cells [gi 1, .slc 175 0 1 none 3, gi 0, .map 177] 173 0 true),
    (227, .cells [gi 30, gi 500, gi 2, gi 1, gi 10, gi 1000, gi 0, gi (-1)] 78 0 true),
    (229, .cells [gi 0, gi 65536] 32 0 true),
    (230, .map [(.agg [gi 0, .str [103]], .agg [gi 2, .slc 9034 0 1 none 6, .slc 9036 0 1 none 3, .str []], 0)] 1),
    (231, .cells [.slc 227 0 2 none 4, .slc 229 0 1 none 2, .map 230] 183 0 true),
    (232, .map [(gi 1, .agg [gi 1, gi 0, gi 1, gi 0, .snil, .snil, .snil], 0)] 1),
    (233, .cells [.map 232] 186 0 true),
    (234, .cells [.ptr 231 0, .ptr 233 0, gi 7, gi 1] 117 0 true),
    (408, .cells [.bool true, .bool false, .slc 432 0 27 none 1, gi 27] 127 0 true),
    (409, .cells [.ptr 408 0, gi 0, .slc 447 0 1 none 1, gi 1] 267 0 true),
    (431, .cells [.ptr 409 0] 264 0 true),
    (432, .cells [.int .u8 1, .int .u8 0, .int .u8 0, .int .u8 0, .int .u8 121, .int .u8 184, .int .u8 248, .int .u8 153, .int .u8 141, .int .u8 239, .int .u8 2, .int .u8 210, .int .u8 0, .int .u8 2, .int .u8 0, .int .u8 0, .int .u8 0, .int .u8 151, .int .u8 23, .int .u8 77, .int .u8 139, .int .u8 140, .int .u8 171, .int .u8 25, .int .u8 86, .int .u8 1, .int .u8 8] 5 0 true),
    (446, .cells [.int .u8 1, .int .u8 8] 5 0 true),
    (447, .cells [.slc 446 0 2 none 1] 25 0 true),
    (463, .map [(gi 0, .snil, 0)] 1),
    (477, .map [] 0),
    (630, .cells [.bool true, .bool false, .slc 1016 0 63 none 1, gi 63] 127 0 true),
    (631, .cells [.ptr 630 0, gi 0, .slc 1031 0 2 none 1, gi 2] 267 0 true),
    (653, .cells [.ptr 631 0] 264 0 true),
    (668, .cells [.int .u8 1, .int .u8 8] 5 0 true),
    (685, .map [(gi 0, .snil, 0)] 1),
    (699, .map [(gi 0, .ptr 1059 0, 0)] 1),
    (1016, .cells [.int .u8 1, .int .u8 0, .int .u8 0, .int .u8 0, .int .u8 121, .int .u8 184, .int .u8 248, .int .u8 153, .int .u8 141, .int .u8 239, .int .u8 2, .int .u8 210, .int .u8 0, .int .u8 2, .int .u8 0, .int .u8 0, .int .u8 0, .int .u8 151, .int .u8 23, .int .u8 77, .int .u8 139, .int .u8 140, .int .u8 171, .int .u8 25, .int .u8 86, .int .u8 1, .int .u8 8, .int .u8 24, .int .u8 0, .int .u8 0, .int .u8 0, .int .u8 108, .int .u8 160, .int .u8 233, .int .u8 180, .int .u8 192, .int .u8 71, .int .u8 63, .int .u8 139, .int .u8 2, .int .u8 0, .int .u8 8, .int .u8 1, .int .u8 1, .int .u8 1, .int .u8 7, .int .u8 0, .int .u8 1, .int .u8 103, .int .u8 1, .int .u8 98, .int .u8 0, .int .u8 0, .int .u8 0, .int .u8 0, .int .u8 0, .int .u8 0, .int .u8 0, .int .u8 0, .int .u8 0, .int .u8 0, .int .u8 0, .int .u8 0] 5 0 true),
    (1030, .cells [.int .u8 2, .int .u8 0, .int .u8 8, .int .u8 1, .int .u8 1, .int .u8 1, .int .u8 7, .int .u8 0, .int .u8 1, .int .u8 103, .int .u8 1, .int .u8 98, .int .u8 0, .int .u8 0, .int .u8 0, .int .u8 0, .int .u8 0, .int .u8 0, .int .u8 0, .int .u8 0, .int .u8 0, .int .u8 0, .int .u8 0, .int .u8 0] 5 0 true),
    (1031, .cells [.slc 668 0 2 none 1, .slc 1030 0 24 none 1] 25 0 true),
    (1056, .cells [.int .u8 1, .int .u8 1, .int .u8 1, .int .u8 7, .int .u8 0, .int .u8 1, .int .u8 103, .int .u8 1, .int .u8 98, .int .u8 0, .int .u8 0, .int .u8 0, .int .u8 0, .int .u8 0, .int .u8 0, .int .u8 0, .int .u8 0, .int .u8 0, .int .u8 0, .int .u8 0, .int .u8 0] 5 0 true),
    (1058, .cells [.int .u8 1, .int .u8 1, .int .u8 1, .int .u8 7, .int .u8 0, .int .u8 1, .int .u8 103, .int .u8 1, .int .u8 98, .int .u8 0, .int .u8 0, .int .u8 0, .int .u8 0, .int .u8 0, .int .u8 0, .int .u8 0, .int .u8 0, .int .u8 0, .int .u8 0, .int .u8 0, .int .u8 0] 5 0 true),
    (1059, .cells [.slc 1058 0 21 none 1, .map 1076] 147 0 true),
    (1076, .map [(gi 0, .agg [], 0)] 1),
    (1106, .cells [.int .u8 1, .int .u8 1, .int .u8 1, .int .u8 7, .int .u8 0, .int .u8 1, .int .u8 103, .int .u8 1, .int .u8 98, .int .u8 0, .int .u8 0, .int .u8 0, .int .u8 0, .int .u8 0, .int .u8 0, .int .u8 0, .int .u8 0, .int .u8 0, .int .u8 0, .int .u8 0, .int .u8 0] 5 0 true),
    (9034, .cells [gi 1, gi 7, gi 0, gi 0, gi 0, .str [98]] 350 0 true),
    (9036, .cells [.one, gi 1, gi 7] 352 0 true),
    (9097, .cells [gi 0, gi 7, gi 1, gi 1, gi 1, gi 7, gi 0, .str [103], .str [98], .str [], .str [], gi 0, gi 0, gi 0, .str [], gi 0, gi 0, gi 0, gi 0, gi 0, .snil, gi 0, gi 1, gi 0, .snil, .snil, .snil, .bool true] 103 0 true),
    (9141, .cells [gi 3, gi 0, gi (-1), gi 1, gi 0, gi 0, gi 0, gi 0, gi 0, gi 0, .snil, .snil, gi 0, gi 1, gi 1, gi 0, gi 0, .str [], .str [], .str [], .str [], gi 0, gi 0, gi 0, .str [], gi 0, gi 0, gi 0, gi 0, gi 0, .snil, gi 0, gi 1, gi 0, .snil, .snil, .snil, gi 0, .snil, .snil] 45 0 true)]⟩
theorem c3_ran : c3.ran (callK cfg q3 1000000 1000) = true := by kernel_rfl
theorem c3_ok : ∀ B, CallOk cfg B c3.take := fun B => c3.ok (callK_ok mixed (ext_ok) (q3_ok) _ _ B) (c3_ran)
/-- (*raceway/node.Node).ask -/
noncomputable def q4 : CallF := (orElse c3.take p0)
theorem q4_ok : ∀ B, CallOk cfg B q4 := fun B => orElse_ok (c3_ok B) (p0_ok B)
def c4 : Chunk := ⟨31, [.ptr 102 0, .agg [gi 2, gi (-1), gi 0, gi 1, gi 0, gi 0, gi 0, gi 0, gi 0, gi 0, .snil, .snil, gi 1, gi 1, gi 1, gi 0, gi 0, .str [103], .str [98], .str [], .str [], gi 0, gi 0, gi 0, .str [], gi 0, gi 0, gi 0, gi 0, gi 0, .snil, gi 0, gi 0, gi 0, .snil, .snil, .snil, gi 0, .snil, .snil], gi 7], 826, [(101, .cells [gi 30, gi 500, gi 2, gi 1, gi 10, gi 1000, gi 0, gi (-1)] 78 0 true),
    (102, .cells [gi 0, gi 1, gi 1, gi 0, gi 1, gi 8, gi 0, .slc 101 0 2 none 4, .slc 152 0 2 none 1, .map 153, .snil] 55 0 true),
    (104, .cells [gi 8, .slc 431 0 1 none 1, .bool false] 239 0 true),
    (105, .cells [.bool true, .bool false, .snil, gi 0] 127 0 true),
    (106, .map [] 0),
    (107, .cells [gi 8, .ptr 104 0, .ptr 105 0, gi 8, gi 0, .map 106] 192 0 true),
    (108, .cells [gi 0, gi 1, gi 1, gi 8, .ptr 107 0, gi 2, gi 8, gi 0, gi 0, gi 0, gi 0, .map 463, .map 477, .map 111, gi 0, .snil, .bool true] 125 0 true),
    (111, .map [] 0),
    (120, .cells [.ptr 108 0, .iface 99 (.ptr 178 0), .ptr 126 0, .snil] 88 0 true),
    (126, .cells [.bool true, .bool false, .snil, gi 0] 127 0 true),
    (129, .cells [gi 8, .slc 653 0 1 none 1, .bool false] 239 0 true),
    (130, .cells [.bool true, .bool false, .snil, gi 0] 127 0 true),
    (131, .map [] 0),
    (132, .cells [gi 8, .ptr 129 0, .ptr 130 0, gi 8, gi 0, .map 131] 192 0 true),
    (133, .cells [gi 0, gi 1, gi 1, gi 8, .ptr 132 0, gi 2, gi 8, gi 0, gi 0, gi 0, gi 0, .map 685, .map 699, .map 136, gi 0, .snil, .bool true] 125 0 true),
    (136, .map [] 0),
    (145, .cells [.ptr 133 0, .iface 64 (.ptr 234 0), .ptr 151 0, .snil] 88 0 true),
    (151, .cells [.bool true, .bool false, .snil, gi 0] 127 0 true),
    (152, .cells [.ptr 120 0, .ptr 145 0] 83 0 true),
    (153, .map [] 0),
    (175, .cells [gi 0, gi 65536, gi 1] 107 0 true),
    (177, .map [] 0),
    (178, .cells [gi 1, .slc 175 0 1 none 3, gi 0, .map 177] 173 0 true),
    (227, .cells [gi 30, gi 500, gi 2, gi 1, gi 10, gi 1000, gi 0, gi (-1)] 78 0 true),
    (229, .cells [gi 0, gi 65536] 32 0 true),
    (230, .map [] 0),
    (231, .cells [.slc 227 0 2 none 4, .slc 229 0 1 none 2, .map 230] 183 0 true),
    (232, .map [] 0),
    (233, .cells [.map 232] 186 0 true),
    (234, .cells [.ptr 231 0, .ptr 233 0, gi 0, gi 0] 117 0 true),
    (408, .cells [.bool true, .bool false, .slc 432 0 27 none 1, gi 27] 127 0 true),
    (409, .cells [.ptr 408 0, gi 0, .slc 447 0 1 none 1, gi 1] 267 0 true),
    (431, .cells [.ptr 409 0] 264 0 true),
    (432, .cells [.int .u8 1, .int .u8 0, .int .u8 0, .int .u8 0, .int .u8 121, .int .u8 184, .int .u8 248, .int .u8 153, .int .u8 141, .int .u8 239, .int .u8 2, .int .u8 210, .int .u8 0, .int .u8 2, .int .u8 0, .int .u8 0, .int .u8 0, .int .u8 151, .int .u8 23, .int .u8 77, .int .u8 139, .int .u8 140, .int .u8 171, .int .u8 25, .int .u8 86, .int .u8 1, .int .u8 8] 5 0 true),
    (446, .cells [.int .u8 1, .int .u8 8] 5 0 true),
    (447, .cells [.slc 446 0 2 none 1] 25 0 true),
    (463, .map [(gi 0, .snil, 0)] 1),
    (477, .map [] 0),
    (630, .cells [.bool true, .bool false, .slc 654 0 27 none 1, gi 27] 127 0 true),
    (631, .cells [.ptr 630 0, gi 0, .slc 669 0 1 none 1, gi 1] 267 0 true),
    (653, .cells [.ptr 631 0] 264 0 true),
    (654, .cells [.int .u8 1, .int .u8 0, .int .u8 0, .int .u8 0, .int .u8 121, .int .u8 184, .int .u8 248, .int .u8 153, .int .u8 141, .int .u8 239, .int .u8 2, .int .u8 210, .int .u8 0, .int .u8 2, .int .u8 0, .int .u8 0, .int .u8 0, .int .u8 151, .int .u8 23, .int .u8 77, .int .u8 139, .int .u8 140, .int .u8 171, .int .u8 25, .int .u8 86, .int .u8 1, .int .u8 8] 5 0 true),
    (668, .cells [.int .u8 1, .int .u8 8] 5 0 true),
    (669, .cells [.slc 668 0 2 none 1] 25 0 true),
    (685, .map [(gi 0, .snil, 0)] 1),
    (699, .map [] 0)],
    .ret (.tuple []), 9167, [(101, .cells [gi 30, gi 500, gi 2, gi 1, gi 10, gi 1000, gi 0, gi (-1)] 78 0 true),
    (102, .cells [gi 0, gi 1, gi 1, gi 0, gi 1, gi 8, gi 0, .slc 101 0 2 none 4, .slc 152 0 2 none 1, .map 153, .slc 9141 0 1 none 40] 55 0 true),
    (104, .cells [gi 8, .slc 431 0 1 none 1, .bool false] 239 0 true),
    (105, .cells [.bool true, .bool false, .snil, gi 0] 127 0 true),
    (106, .map [] 0),
    (107, .cells [gi 8, .ptr 104 0, .ptr 105 0, gi 8, gi 0, .map 106] 192 0 true),
    (108, .cells [gi 0, gi 1, gi 1, gi 8, .ptr 107 0, gi 2, gi 8, gi 0, gi 0, gi 0, gi 0, .map 463, .map 477, .map 111, gi 0, .snil, .bool true] 125 0 true),
    (111, .map [] 0),
    (120, .cells [.ptr 108 0, .iface 99 (.ptr 178 0), .ptr 126 0, .snil] 88 0 true),
    (126, .cells [.bool true, .bool false, .snil, gi 0] 127 0 true),
    (129, .cells [gi 8, .slc 653 0 1 none 1, .bool false] 239 0 true),
    (130, .cells [.bool true, .bool false, .snil, gi 0] 127 0 true),
    (131, .map [(gi 0, .agg [gi 8, .slc 1056 0 21 none 1], 0)] 1),
    (132, .cells [gi 8, .ptr 129 0, .ptr 130 0, gi 8, gi 0, .map 131] 192 0 true),
    (133, .cells [gi 0, gi 1, gi 1, gi 8, .ptr 132 0, gi 2, gi 8, gi 0, gi 0, gi 0, gi 1, .map 685, .map 699, .map 136, gi 1, .snil, .bool true] 125 0 true),
    (136, .map [(gi 0, .slc 1106 0 21 none 1, 0)] 1),
    (145, .cells [.ptr 133 0, .iface 64 (.ptr 234 0), .ptr 151 0, .slc 9097 0 1 none 28] 88 0 true),
    (151, .cells [.bool true, .bool false, .snil, gi 0] 127 0 true),
    (152, .cells [.ptr 120 0, .ptr 145 0] 83 0 true),
    (153, .map [] 1),
    (175, .cells [gi 0, gi 65536, gi 1] 107 0 true),
    (177, .map [] 0),
    (178, .cells [gi 1, .slc 175 0 1 none 3, gi 0, .map 177] 173 0 true),
    (227, .cells [gi 30, gi 500, gi 2, gi 1, gi 10, gi 1000, gi 0, gi (-1)] 78 0 true),
    (229, .cells [gi 0, gi 65536] 32 0 true),
    (230, .map [(.agg [gi 0, .str [103]], .agg [gi 2, .slc 9034 0 1 none 6, .slc 9036 0 1 none 3, .str []], 0)] 1),
    (231, .cells [.slc 227 0 2 none 4, .slc 229 0 1 none 2, .map 230] 183 0 true),
    (232, .map [(gi 1, .agg [gi 1, gi 0, gi 1, gi 0, .snil, .snil, .snil], 0)] 1),
    (233, .cells [.map 232] 186 0 true),
    (234, .cells [.ptr 231 0, .ptr 233 0, gi 7, gi 1] 117 0 true),
    (408, .cells [.bool true, .bool false, .slc 432 0 27 none 1, gi 27] 127 0 true),
    (409, .cells [.ptr 408 0, gi 0, .slc 447 0 1 none 1, gi 1] 267 0 true),
    (431, .cells [.ptr 409 0] 264 0 true),
    (432, .cells [.int .u8 1, .int .u8 0, .int .u8 0, .int .u8 0, .int .u8 121, .int .u8 184, .int .u8 248, .int .u8 153, .int .u8 141, .int .u8 239, .int .u8 2, .int .u8 210, .int .u8 0, .int .u8 2, .int .u8 0, .int .u8 0, .int .u8 0, .int .u8 151, .int .u8 23, .int .u8 77, .int .u8 139, .int .u8 140, .int .u8 171, .int .u8 25, .int .u8 86, .int .u8 1, .int .u8 8] 5 0 true),
    (446, .cells [.int .u8 1, .int .u8 8] 5 0 true),
    (447, .cells [.slc 446 0 2 none 1] 25 0 true),
    (463, .map [(gi 0, .snil, 0)] 1),
    (477, .map [] 0),
    (630, .cells [.bool true, .bool false, .slc 1016 0 63 none 1, gi 63] 127 0 true),
    (631, .cells [.ptr 630 0, gi 0, .slc 1031 0 2 none 1, gi 2] 267 0 true),
    (653, .cells [.ptr 631 0] 264 0 true),
    (654, .cells [.int .u8 1, .int .u8 0, .int .u8 0, .int .u8 0, .int .u8 121, .int .u8 184, .int .u8 248, .int .u8 153, .int .u8 141, .int .u8 239, .int .u8 2, .int .u8 210, .int .u8 0, .int .u8 2, .int .u8 0, .int .u8 0, .int .u8 0, .int .u8 151, .int .u8 23, .int .u8 77, .int .u8 139, .int .u8 140, .int .u8 171, .int .u8 25, .int .u8 86, .int .u8 1, .int .u8 8] 5 0 true),
    (668, .cells [.int .u8 1, .int .u8 8] 5 0 true),
    (685, .map [(gi 0, .snil, 0)] 1),
    (699, .map [(gi 0, .ptr 1059 0, 0)] 1),
    (1016, .cells [.int .u8 1, .int .u8 0, .int .u8 0, .int .u8 0, .int .u8 121, .int .u8 184, .int .u8 248, .int .u8 153, .int .u8 141, .int .u8 239, .int .u8 2, .int .u8 210, .int .u8 0, .int .u8 2, .int .u8 0, .int .u8 0, .int .u8 0, .int .u8 151, .int .u8 23, .int .u8 77, .int .u8 139, .int .u8 140, .int .u8 171, .int .u8 25, .int .u8 86, .int .u8 1, .int .u8 8, .int .u8 24, .int .u8 0, .int .u8 0, .int .u8 0, .int .u8 108, .int .u8 160, .int .u8 233, .int .u8 180, .int .u8 192, .int .u8 71, .int .u8 63, .int .u8 139, .int .u8 2, .int .u8 0, .int .u8 8, .int .u8 1, .int .u8 1, .int .u8 1, .int .u8 7, .int .u8 0, .int .u8 1, .int .u8 103, .int .u8 1, .int .u8 98, .int .u8 0, .int .u8 0, .int .u8 0, .int .u8 0, .int .u8 0, .int .u8 0, .int .u8 0, .int .u8 0, .int .u8 0, .int .u8 0, .int .u8 0, .int .u8 0] 5 0 true),
    (1030, .cells [.int .u8 2, .int .u8 0, .int .u8 8, .int .u8 1, .int .u8 1, .int .u8 1, .int .u8 7, .int .u8 0, .int .u8 1, .int .u8 103, .int .u8 1, .int .u8 98, .int .u8 0, .int .u8 0, .int .u8 0, .int .u8 0, .int .u8 0, .int .u8 0, .int .u8 0, .int .u8 0, .int .u8 0, .int .u8 0, .int .u8 0, .int .u8 0] 5 0 true),
    (1031, .cells [.slc 668 0 2 none 1, .slc 1030 0 24 none 1] 25 0 true),
    (1056, .cells [.int .u8 1, .int .u8 1, .int .u8 1, .int .u8 7, .int .u8 0, .int .u8 1, .int .u8 103, .int .u8 1, .int .u8 98, .int .u8 0, .int .u8 0, .int .u8 0, .int .u8 0, .int .u8 0, .int .u8 0, .int .u8 0, .int .u8 0, .int .u8 0, .int .u8 0, .int .u8 0, .int .u8 0] 5 0 true),
    (1058, .cells [.int .u8 1, .int .u8 1, .int .u8 1, .int .u8 7, .int .u8 0, .int .u8 1, .int .u8 103, .int .u8 1, .int .u8 98, .int .u8 0, .int .u8 0, .int .u8 0, .int .u8 0, .int .u8 0, .int .u8 0, .int .u8 0, .int .u8 0, .int .u8 0, .int .u8 0, .int .u8 0, .int .u8 0] 5 0 true),
    (1059, .cells [.slc 1058 0 21 none 1, .map 1076] 147 0 true),
    (1076, .map [(gi 0, .agg [], 0)] 1),
    (1106, .cells [.int .u8 1, .int .u8 1, .int .u8 1, .int .u8 7, .int .u8 0, .int .u8 1, .int .u8 103, .int .u8 1, .int .u8 98, .int .u8 0, .int .u8 0, .int .u8 0, .int .u8 0, .int .u8 0, .int .u8 0, .int .u8 0, .int .u8 0, .int .u8 0, .int .u8 0, .int .u8 0, .int .u8 0] 5 0 true),
    (9034, .cells [gi 1, gi 7, gi 0, gi 0, gi 0, .str [98]] 350 0 true),
    (9036, .cells [.one, gi 1, gi 7] 352 0 true),
    (9097, .cells [gi 0, gi 7, gi 1, gi 1, gi 1, gi 7, gi 0, .str [103], .str [98], .str [], .str [], gi 0, gi 0, gi 0, .str [], gi 0, gi 0, gi 0, gi 0, gi 0, .snil, gi 0, gi 1, gi 0, .snil, .snil, .snil, .bool true] 103 0 true),
    (9141, .cells [gi 3, gi 0, gi (-1), gi 1, gi 0, gi 0, gi 0, gi 0, gi 0, gi 0, .snil, .snil, gi 0, gi 1, gi 1, gi 0, gi 0, .str [], .str [], .str [], .str [], gi 0, gi 0, gi 0, .str [], gi 0, gi 0, gi 0, gi 0, gi 0, .snil, gi 0, gi 1, gi 0, .snil, .snil, .snil, gi 0, .snil, .snil] 45 0 true)]⟩
theorem c4_ran : c4.ran (callK cfg q4 1000000 1000) = true := by kernel_rfl
theorem c4_ok : ∀ B, CallOk cfg B c4.take := fun B => c4.ok (callK_ok mixed (ext_ok) (q4_ok) _ _ B) (c4_ran)
/-- raceway/racewaylaw17.NodeNobody -/
noncomputable def q5 : CallF := (orElse c0.take (orElse c4.take p0))
theorem q5_ok : ∀ B, CallOk cfg B q5 := fun B => orElse_ok (c0_ok B) (orElse_ok (c4_ok B) (p0_ok B))
def rootArgs : List AV := [.agg [.one, .one, .one, .one, .one, .one, .one, .one], .agg [.one, .one, .one, .one, .one, .one, .one, .one, .one, .one, .one, .one, .one, .one, .one, .one, .one, .one, .one, .one, .one, .one, .one, .one, .one, .one, .one, .one, .one, .one, .one, .one, .one, .one, .one, .one, .one, .one, .one, .one, .one, .one, .one, .one, .one]]
theorem root : saysTrue (callK cfg q5 1000000 1000 3 rootArgs .empty) = true := by kernel_rfl
end Go.Proofs.YtllkmclobkamkaaGreatDoor.runNode
