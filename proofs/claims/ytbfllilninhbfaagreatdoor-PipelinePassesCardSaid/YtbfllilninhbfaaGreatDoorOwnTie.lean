/-
  The tie of the listed package-level variables, paid by a walk of the program's own initialisers (made by the kit's great-walk3.mjs, turned to the later family's law and to the row's order). No condition.
-/
import Derived.Test.YtbfllilninhbfaaGreatDoorProg
import Derived.Great.CaseRows
import Derived.Great.LaidInts
import Derived.Great.ByCalls
import Derived.Lib.LaidU8
import Derived.Lib.LaidRTabT
import Derived.WalkKit
import Derived.Great.ByCallsLater
namespace Go.Proofs.YtbfllilninhbfaaGreatDoor.Tie
open Go.Great Go.Lib
set_option linter.unusedVariables false

def z6 : List Int := [0, 1, 28, 2, 29, 14, 24, 3, 30, 22, 20, 15, 25, 17, 4, 8, 31, 27, 13, 23, 21, 19, 16, 7, 26, 12, 18, 6, 11, 5, 10, 9]
def z7 : List Int := [0, 1, 56, 2, 57, 49, 28, 3, 61, 58, 42, 50, 38, 29, 17, 4, 62, 47, 59, 36, 45, 43, 51, 22, 53, 39, 33, 30, 24, 18, 12, 5, 63, 55, 48, 27, 60, 41, 37, 16, 46, 35, 44, 21, 52, 32, 23, 11, 54, 26, 40, 15, 34, 20, 31, 10, 25, 14, 19, 9, 13, 8, 7, 6]
def z5 : List Int := [1, 10, 100, 1000, 10000, 100000, 1000000, 10000000, 100000000, 1000000000, 10000000000, 100000000000, 1000000000000, 10000000000000, 100000000000000, 1000000000000000, 10000000000000000, 100000000000000000, 1000000000000000000, 10000000000000000000]
def z1 : List Int := [0, 0, 0, 0, 0, 0, 0, 0, 0, 1, 1, 1, 1, 1, 0, 0, 0, 0, 0, 0, 0, 0, 0, 0, 0, 0, 0, 0, 0, 0, 0, 0, 1, 0, 0, 0, 0, 0, 0, 0, 0, 0, 0, 0, 0, 0, 0, 0, 0, 0, 0, 0, 0, 0, 0, 0, 0, 0, 0, 0, 0, 0, 0, 0, 0, 0, 0, 0, 0, 0, 0, 0, 0, 0, 0, 0, 0, 0, 0, 0, 0, 0, 0, 0, 0, 0, 0, 0, 0, 0, 0, 0, 0, 0, 0, 0, 0, 0, 0, 0, 0, 0, 0, 0, 0, 0, 0, 0, 0, 0, 0, 0, 0, 0, 0, 0, 0, 0, 0, 0, 0, 0, 0, 0, 0, 0, 0, 0, 0, 0, 0, 0, 0, 0, 0, 0, 0, 0, 0, 0, 0, 0, 0, 0, 0, 0, 0, 0, 0, 0, 0, 0, 0, 0, 0, 0, 0, 0, 0, 0, 0, 0, 0, 0, 0, 0, 0, 0, 0, 0, 0, 0, 0, 0, 0, 0, 0, 0, 0, 0, 0, 0, 0, 0, 0, 0, 0, 0, 0, 0, 0, 0, 0, 0, 0, 0, 0, 0, 0, 0, 0, 0, 0, 0, 0, 0, 0, 0, 0, 0, 0, 0, 0, 0, 0, 0, 0, 0, 0, 0, 0, 0, 0, 0, 0, 0, 0, 0, 0, 0, 0, 0, 0, 0, 0, 0, 0, 0, 0, 0, 0, 0, 0, 0, 0, 0, 0, 0, 0, 0, 0, 0, 0, 0, 0, 0]
set_option maxHeartbeats 4000000 in
def T10 : RTab := { r16 := #[(9, 13, 1), (32, 133, 101), (160, 5760, 5600), (8192, 8202, 1), (8232, 8233, 1), (8239, 8287, 48), (12288, 12288, 1)], r32 := #[], off := 2 }


def accCells : Array Value := #[.int .u8 128, .int .u8 191, .int .u8 160, .int .u8 191, .int .u8 128, .int .u8 159, .int .u8 144, .int .u8 191, .int .u8 128, .int .u8 143, .int .u8 0, .int .u8 0, .int .u8 0, .int .u8 0, .int .u8 0, .int .u8 0, .int .u8 0, .int .u8 0, .int .u8 0, .int .u8 0, .int .u8 0, .int .u8 0, .int .u8 0, .int .u8 0, .int .u8 0, .int .u8 0, .int .u8 0, .int .u8 0, .int .u8 0, .int .u8 0, .int .u8 0, .int .u8 0]
def rowOf (w : World) (g : Nat) : Array Value := match w.heap[g]? with | some (.cells c _ _) => c | _ => #[]
def cellOf (w : World) (g : Nat) : Value := (rowOf w g).getD 0 undef
abbrev ints (k : IntKind) (zs : List Int) : DataW Unit := .slice (zs.map fun n => .lit (.int k n)) []
def laidAll : List (String × DataW Unit) := [("strings.asciiSpace", Lib.tabData .u8 z1)] ++ ([("unicode.White_Space", rtabData T10)] ++ [("unicode/utf8.acceptRanges", Lib.acceptData), ("strconv.ErrSyntax", .iface "*errors.errorString" (.ptr (.agg [.lit (.string [105, 110, 118, 97, 108, 105, 100, 32, 115, 121, 110, 116, 97, 120])]))), ("strconv.ErrRange", .iface "*errors.errorString" (.ptr (.agg [.lit (.string [118, 97, 108, 117, 101, 32, 111, 117, 116, 32, 111, 102, 32, 114, 97, 110, 103, 101])]))), ("internal/strconv.uint64pow10", Lib.tabData .u64 z5), ("math/bits.deBruijn32tab", Lib.tabData .u8 z6), ("math/bits.deBruijn64tab", Lib.tabData .u8 z7)])
theorem fits (k : IntKind) (zs : List Int) (h : (zs.all fun n => (Lit.int k n).wf) = true) : ∀ n ∈ zs, (Lit.int k n).wf = true := fun n hn => List.all_eq_true.1 h n hn

/-- errors.New, by its contract: a new block that holds the text; an interface value over a pointer to it. -/
theorem new_c (s : ByteArray) (w : World) : Calls Tryz.prog 437 #[.string s] w fun e w' => e = .returned (.iface 550 (.pointer (some ⟨w.heap.size, 0, none⟩))) ∧ w' = w.alloc (.cells #[.string s] 552) := by
  go_enter Tryz.func437, Tryz.ntmps437
  go_wp2
  go_ret
  exact ⟨rfl, rfl⟩
theorem new_cAt (s : ByteArray) (w : World) (N : Nat) (hN : w.heap.size = N) : Calls Tryz.prog 437 #[.string s] w fun e w' => e = .returned (.iface 550 (.pointer (some ⟨N, 0, none⟩))) ∧ w' = w.alloc (.cells #[.string s] 552) := by
  subst hN
  exact new_c s w

/-- The guide's nine facts on unicode's types ('RTypes') and eight on cells ('RExtra'), at this dump's numbers. -/
def rho : Shelf.Ren := ⟨id, fun | 3 => 3 | 49 => 577 | 51 => 543 | 141 => 545 | 193 => 573 | 194 => 574 | 196 => 576 | 198 => 579 | 201 => 582 | x => x, id⟩
theorem rty : RTypes Tryz.prog rho := ⟨by kernel_rfl, by kernel_rfl, by kernel_rfl, by kernel_rfl, by kernel_rfl, by kernel_rfl, by kernel_rfl, by kernel_rfl, by kernel_rfl⟩
theorem rex : RExtra Tryz.prog rho := ⟨by kernel_rfl, by kernel_rfl, by kernel_rfl, by kernel_rfl, by kernel_rfl, by kernel_rfl, by kernel_rfl, by kernel_rfl⟩

attribute [local irreducible] wpList Code.wp varsStart rowOf cellOf accCells z6 z7 z5 z1

set_option linter.unusedSimpArgs false in
set_option maxRecDepth 1000000 in
set_option maxHeartbeats 4000000 in
theorem tie : Tryz.prog.laidByTextLater laidAll [.data, .listed, .data, .sentinel, .sentinel, .data, .data, .data] true :=
  Program.laidByTextLater_by_calls (by as_aux_lemma => kernel_rfl) (by as_aux_lemma => kernel_rfl) (by as_aux_lemma => kernel_rfl) (by as_aux_lemma => kernel_rfl) (by as_aux_lemma => kernel_rfl) (by as_aux_lemma => kernel_rfl) (by as_aux_lemma => kernel_rfl) fun os tape => by
    have e : varsId Tryz.prog = 581 := by as_aux_lemma => kernel_rfl
    rw [e]
    refine calls_of_wp Tryz.func581 rfl ?_
    refine wp_anyFrame 23 (by as_aux_lemma => kernel_rfl) rfl fun a0 hs0 hd0 => ?_
    -- bits.go:44: math/bits.deBruijn32tab
    apply wp_seq_k; intro K0 hK0
    apply wp_region_lit
    refine wpList_buildFlatArrTo rfl 616 5 32 _ rfl .u8 z6 (some 0) rfl (by as_aux_lemma => kernel_rfl) (by as_aux_lemma => kernel_rfl) (by as_aux_lemma => kernel_rfl) (by as_aux_lemma => kernel_rfl) ?_
    refine wpList_store_rowTo rfl 616 _ _ rfl rfl 6 (z6.map (Value.int .u8)).toArray rfl (Act.eval_put_same _ 0 _ (by simp only [Act.size_put, hs0]; omega)) 616 (rowOf (varsStart Tryz.prog os tape) 6) (by as_aux_lemma => kernel_rfl) (by as_aux_lemma => kernel_rfl) (by as_aux_lemma => kernel_rfl) (by as_aux_lemma => kernel_rfl) ?_
    apply wpList_nil
    refine hK0 _ _ ?_
    refine wp_anyFrame 23 (by simp only [Act.size_put, hs0]) (by simp only [Act.defers_put', hd0]) fun a1 hs1 hd1 => ?_
    clear hK0 K0
    -- bits.go:51: math/bits.deBruijn64tab
    apply wp_seq_k; intro K1 hK1
    apply wp_region_lit
    refine wpList_buildFlatArrTo rfl 617 5 64 _ rfl .u8 z7 (some 1) rfl (by as_aux_lemma => kernel_rfl) (by as_aux_lemma => kernel_rfl) (by as_aux_lemma => kernel_rfl) (by as_aux_lemma => kernel_rfl) ?_
    refine wpList_store_rowTo rfl 617 _ _ rfl rfl 7 (z7.map (Value.int .u8)).toArray rfl (Act.eval_put_same _ 1 _ (by simp only [Act.size_put, hs1]; omega)) 617 (rowOf (varsStart Tryz.prog os tape) 7) (by as_aux_lemma => kernel_rfl) (by as_aux_lemma => kernel_rfl) (by as_aux_lemma => kernel_rfl) (by as_aux_lemma => kernel_rfl) ?_
    apply wpList_nil
    refine hK1 _ _ ?_
    refine wp_anyFrame 23 (by simp only [Act.size_put, hs1]) (by simp only [Act.defers_put', hd1]) fun a2 hs2 hd2 => ?_
    clear hK1 K1
    -- uscale.go:82: internal/strconv.uint64pow10
    apply wp_seq_k; intro K2 hK2
    apply wp_region_lit
    refine wpList_buildFlatArrTo rfl 568 522 20 _ rfl .u64 z5 (some 2) rfl (by as_aux_lemma => kernel_rfl) (by as_aux_lemma => kernel_rfl) (by as_aux_lemma => kernel_rfl) (by as_aux_lemma => kernel_rfl) ?_
    refine wpList_store_rowTo rfl 568 _ _ rfl rfl 5 (z5.map (Value.int .u64)).toArray rfl (Act.eval_put_same _ 2 _ (by simp only [Act.size_put, hs2]; omega)) 568 (rowOf (varsStart Tryz.prog os tape) 5) (by as_aux_lemma => kernel_rfl) (by as_aux_lemma => kernel_rfl) (by as_aux_lemma => kernel_rfl) (by as_aux_lemma => kernel_rfl) ?_
    apply wpList_nil
    refine hK2 _ _ ?_
    refine wp_anyFrame 23 (by simp only [Act.size_put, hs2]) (by simp only [Act.defers_put', hd2]) fun a3 hs3 hd3 => ?_
    clear hK2 K2
    -- utf8.go:100: unicode/utf8.acceptRanges
    apply wp_seq_k; intro K3 hK3
    apply wp_region_lit
    refine wpList_buildTo rfl 619 _ rfl (some 3) rfl #[.int .u8 128, .int .u8 191] (by as_aux_lemma => kernel_rfl) ?_
    refine wpList_buildTo rfl 619 _ rfl (some 4) rfl #[.int .u8 160, .int .u8 191] (by as_aux_lemma => kernel_rfl) ?_
    refine wpList_buildTo rfl 619 _ rfl (some 5) rfl #[.int .u8 128, .int .u8 159] (by as_aux_lemma => kernel_rfl) ?_
    refine wpList_buildTo rfl 619 _ rfl (some 6) rfl #[.int .u8 144, .int .u8 191] (by as_aux_lemma => kernel_rfl) ?_
    refine wpList_buildTo rfl 619 _ rfl (some 7) rfl #[.int .u8 128, .int .u8 143] (by as_aux_lemma => kernel_rfl) ?_
    refine wpList_buildTo rfl 620 _ rfl (some 8) rfl accCells ?_ ?_
    · simp only [List.map_toArray, List.map_cons, List.map_nil]
      rw [Act.eval_put_ne _ _ _ _ (by decide), Act.eval_put_ne _ _ _ _ (by decide), Act.eval_put_ne _ _ _ _ (by decide), Act.eval_put_ne _ _ _ _ (by decide), Act.eval_put_same _ 3 _ (by simp only [Act.size_put, hs3]; omega), Act.eval_put_ne _ _ _ _ (by decide), Act.eval_put_ne _ _ _ _ (by decide), Act.eval_put_ne _ _ _ _ (by decide), Act.eval_put_same _ 4 _ (by simp only [Act.size_put, hs3]; omega), Act.eval_put_ne _ _ _ _ (by decide), Act.eval_put_ne _ _ _ _ (by decide), Act.eval_put_same _ 5 _ (by simp only [Act.size_put, hs3]; omega), Act.eval_put_ne _ _ _ _ (by decide), Act.eval_put_same _ 6 _ (by simp only [Act.size_put, hs3]; omega), Act.eval_put_same _ 7 _ (by simp only [Act.size_put, hs3]; omega)]
      as_aux_lemma => kernel_rfl
    refine wpList_store_rowTo rfl 620 _ _ rfl rfl 9 accCells rfl (Act.eval_put_same _ 8 _ (by simp only [Act.size_put, hs3]; omega)) 620 (rowOf (varsStart Tryz.prog os tape) 9) (by as_aux_lemma => kernel_rfl) (by as_aux_lemma => kernel_rfl) (by as_aux_lemma => kernel_rfl) (by as_aux_lemma => kernel_rfl) ?_
    apply wpList_nil
    refine hK3 _ _ ?_
    refine wp_anyFrame 23 (by simp only [Act.size_put, hs3]) (by simp only [Act.defers_put', hd3]) fun a4 hs4 hd4 => ?_
    clear hK3 K3
    -- number.go:246: strconv.ErrRange
    apply wp_seq_k; intro K4 hK4
    apply wp_region_lit
    refine wpList_callTo rfl (some 9) rfl 437 _ (by as_aux_lemma => kernel_rfl) _ _ (new_cAt ⟨#[118, 97, 108, 117, 101, 32, 111, 117, 116, 32, 111, 102, 32, 114, 97, 110, 103, 101]⟩ _ ((varsStart Tryz.prog os tape).heap.size + 0) (by as_aux_lemma => kernel_rfl)) ?_
    refine wpList_store_oneTo rfl 279 _ _ rfl rfl 3 (.iface 550 (.pointer (some ⟨(varsStart Tryz.prog os tape).heap.size + 0, 0, none⟩))) rfl (Act.eval_put_same _ 9 _ (by simp only [Act.size_put, hs4]; omega)) rfl 279 (cellOf (varsStart Tryz.prog os tape) 3) (by as_aux_lemma => kernel_rfl) (by as_aux_lemma => kernel_rfl) ?_
    apply wpList_nil
    refine hK4 _ _ ?_
    refine wp_anyFrame 23 (by simp only [Act.size_put, hs4]) (by simp only [Act.defers_put', hd4]) fun a5 hs5 hd5 => ?_
    clear hK4 K4
    -- number.go:249: strconv.ErrSyntax
    apply wp_seq_k; intro K5 hK5
    apply wp_region_lit
    refine wpList_callTo rfl (some 10) rfl 437 _ (by as_aux_lemma => kernel_rfl) _ _ (new_cAt ⟨#[105, 110, 118, 97, 108, 105, 100, 32, 115, 121, 110, 116, 97, 120]⟩ _ ((varsStart Tryz.prog os tape).heap.size + 1) (by as_aux_lemma => kernel_rfl)) ?_
    refine wpList_store_oneTo rfl 279 _ _ rfl rfl 2 (.iface 550 (.pointer (some ⟨(varsStart Tryz.prog os tape).heap.size + 1, 0, none⟩))) rfl (Act.eval_put_same _ 10 _ (by simp only [Act.size_put, hs5]; omega)) rfl 279 (cellOf (varsStart Tryz.prog os tape) 2) (by as_aux_lemma => kernel_rfl) (by as_aux_lemma => kernel_rfl) ?_
    apply wpList_nil
    refine hK5 _ _ ?_
    refine wp_anyFrame 23 (by simp only [Act.size_put, hs5]) (by simp only [Act.defers_put', hd5]) fun a6 hs6 hd6 => ?_
    clear hK5 K5
    -- tables.go:9029: unicode._White_Space
    apply wp_seq_k; intro K6 hK6
    apply wp_region_lit
    refine wpList_splitAt 7 (rgOps 579 "tables.go:9029" .u16 11 T10.r16.toList) (by as_aux_lemma => kernel_rfl) ?_
    refine wpList_rgs 579 "tables.go:9029" .u16 (fun _ _ _ => by as_aux_lemma => kernel_rfl) T10.r16.toList 11 _ (by simp only [Act.size_put, hs6]; exact Nat.le_of_ble_eq_true (by as_aux_lemma => kernel_rfl)) fun b6 hb6 hbd6 hev6 _ => ?_
    refine wpList_buildRgs rfl 573 579 _ .u16 T10.r16 rfl 11 ((varsStart Tryz.prog os tape).heap.size + 2) (by as_aux_lemma => kernel_rfl) (some 18) rfl (by as_aux_lemma => kernel_rfl) (by as_aux_lemma => kernel_rfl) (by as_aux_lemma => kernel_rfl) (by decide) (by decide) (by as_aux_lemma => kernel_rfl) hev6 ?_
    refine wpList_buildTo rfl 576 _ rfl (some 19) rfl #[.slice (some ⟨(varsStart Tryz.prog os tape).heap.size + 2, 0, none⟩) T10.r16.size T10.r16.size, .slice none 0 0, .int .i64 T10.off] ?_ ?_
    · simp only [List.map_toArray, List.map_cons, List.map_nil]
      rw [Act.eval_put_same _ 18 _ (by simp only [Act.size_put, hb6, hs6]; omega)]
      as_aux_lemma => kernel_rfl
    refine wpList_boxTo rfl 576 _ rfl (some 20) rfl ((varsStart Tryz.prog os tape).heap.size + 3) (by as_aux_lemma => kernel_rfl) #[.slice (some ⟨(varsStart Tryz.prog os tape).heap.size + 2, 0, none⟩) T10.r16.size T10.r16.size, .slice none 0 0, .int .i64 T10.off] (by rw [Act.eval_put_same _ 19 _ (by simp only [Act.size_put, hb6, hs6]; omega)]; rfl) ?_
    refine wpList_store_oneTo rfl 545 _ _ rfl rfl 10 (.pointer (some ⟨(varsStart Tryz.prog os tape).heap.size + 3, 0, none⟩)) rfl (Act.eval_put_same _ 20 _ (by simp only [Act.size_put, hb6, hs6]; omega)) rfl 545 (cellOf (varsStart Tryz.prog os tape) 10) (by as_aux_lemma => kernel_rfl) (by as_aux_lemma => kernel_rfl) ?_
    apply wpList_nil
    refine hK6 _ _ ?_
    refine wp_anyFrame 23 (by simp only [Act.size_put, hb6, hs6]) (by simp only [Act.defers_put', hbd6, hd6]) fun a7 hs7 hd7 => ?_
    clear hK6 K6
    -- tables.go:9082: unicode.White_Space
    apply wp_seq_k; intro K7 hK7
    apply wp_region_lit
    refine wpList_readTo rfl (some 21) rfl (.pointer (some ⟨(varsStart Tryz.prog os tape).heap.size + 3, 0, none⟩)) (by as_aux_lemma => kernel_rfl) ?_
    refine wpList_store_oneTo rfl 545 _ _ rfl rfl 4 (.pointer (some ⟨(varsStart Tryz.prog os tape).heap.size + 3, 0, none⟩)) rfl (Act.eval_put_same _ 21 _ (by simp only [Act.size_put, hs7]; omega)) rfl 545 (cellOf (varsStart Tryz.prog os tape) 4) (by as_aux_lemma => kernel_rfl) (by as_aux_lemma => kernel_rfl) ?_
    apply wpList_nil
    refine hK7 _ _ ?_
    refine wp_anyFrame 23 (by simp only [Act.size_put, hs7]) (by simp only [Act.defers_put', hd7]) fun a8 hs8 hd8 => ?_
    clear hK7 K7
    -- strings.go:358: strings.asciiSpace
    apply wp_region_lit
    refine wpList_buildTo rfl 512 _ rfl (some 22) rfl (z1.map (Value.int .u8)).toArray (by as_aux_lemma => kernel_rfl) ?_
    refine wpList_store_rowTo rfl 512 _ _ rfl rfl 1 (z1.map (Value.int .u8)).toArray rfl (Act.eval_put_same _ 22 _ (by simp only [Act.size_put, hs8]; omega)) 512 (rowOf (varsStart Tryz.prog os tape) 1) (by as_aux_lemma => kernel_rfl) (by as_aux_lemma => kernel_rfl) (by as_aux_lemma => kernel_rfl) (by as_aux_lemma => kernel_rfl) ?_
    apply wpList_nil
    refine bodyPost_end0 rfl (by simp only [Act.defers_put', hd8]) ?_
    rw [MakeChecks.laidMetH_plain _ _ _ (by as_aux_lemma => kernel_rfl)]
    refine ⟨⟨_, rfl⟩, laidMet_memory (LaidIn.met (B := [1] ++ ([4, (varsStart Tryz.prog os tape).heap.size + 3, (varsStart Tryz.prog os tape).heap.size + 2] ++ [9, 2, (varsStart Tryz.prog os tape).heap.size + 1, 3, (varsStart Tryz.prog os tape).heap.size + 0, 5, 6, 7])) ?_)⟩
    unfold laidAll
    refine LaidIn.append (B := [1]) (LaidIn.of_run [1] 10 (by as_aux_lemma => kernel_rfl) (by as_aux_lemma => kernel_rfl) (by as_aux_lemma => kernel_rfl) (by as_aux_lemma => kernel_rfl)) ?_ (by as_aux_lemma => kernel_rfl)
    refine LaidIn.append (B := [4, (varsStart Tryz.prog os tape).heap.size + 3, (varsStart Tryz.prog os tape).heap.size + 2]) (laidIn_rtab16T (ρ := rho) rty rex (name := "unicode.White_Space") (g := 4) (by as_aux_lemma => kernel_rfl) (by as_aux_lemma => kernel_rfl) T10 ((varsStart Tryz.prog os tape).heap.size + 3) ((varsStart Tryz.prog os tape).heap.size + 2) 579 (by as_aux_lemma => kernel_rfl) (by as_aux_lemma => kernel_rfl) (by as_aux_lemma => kernel_rfl) (by as_aux_lemma => kernel_rfl) (by decide) (by decide) (of_decide_eq_true (by as_aux_lemma => kernel_rfl))) ?_ (by as_aux_lemma => kernel_rfl)
    exact LaidIn.of_run [9, 2, (varsStart Tryz.prog os tape).heap.size + 1, 3, (varsStart Tryz.prog os tape).heap.size + 0, 5, 6, 7] 10 (by as_aux_lemma => kernel_rfl) (by as_aux_lemma => kernel_rfl) (by as_aux_lemma => kernel_rfl) (by as_aux_lemma => kernel_rfl)

end Go.Proofs.YtbfllilninhbfaaGreatDoor.Tie
