/-
  The walk of PipelinePasses: for every index and every name the call returns true, and nothing that was there before has turned. No condition.
-/
import Derived.Test.YtbfllilninhbfaaGreatDoorProg
import Derived.WalkKit
import Derived.WalkSpells
import Derived.WalkLawsBesides
import Derived.Deep.QuietTactic
import Derived.BigQuiet
import Derived.Deep.Draws
import Derived.Laws.EntriesVeiled
import Derived.Lib.Hide
namespace Go.Proofs.YtbfllilninhbfaaGreatDoor.Passes
open Go.RowKit

def nm : List ByteArray := [⟨#[115, 112, 101, 99, 105, 97, 108]⟩, ⟨#[115, 105, 109, 112, 108, 105, 102, 121]⟩, ⟨#[99, 97, 115, 101, 99, 97, 115, 101]⟩, ⟨#[105, 110, 119, 97, 114, 100]⟩, ⟨#[111, 117, 116, 119, 97, 114, 100]⟩, ⟨#[119, 111, 114, 107, 119, 114, 97, 112]⟩, ⟨#[115, 116, 114, 105, 99, 116]⟩, ⟨#[116, 114, 105, 109]⟩]
def nv : List Value := nm.map Value.string
def PC : Array Value := #[.string ⟨#[115, 112, 101, 99, 105, 97, 108]⟩, .func (.func 8) #[] #[], .string ⟨#[115, 105, 109, 112, 108, 105, 102, 121]⟩, .func (.func 9) #[] #[], .string ⟨#[99, 97, 115, 101, 99, 97, 115, 101]⟩, .func (.func 10) #[] #[], .string ⟨#[105, 110, 119, 97, 114, 100]⟩, .func (.func 11) #[] #[], .string ⟨#[111, 117, 116, 119, 97, 114, 100]⟩, .func (.func 12) #[] #[], .string ⟨#[119, 111, 114, 107, 119, 114, 97, 112]⟩, .func (.func 13) #[] #[], .string ⟨#[115, 116, 114, 105, 99, 116]⟩, .func (.func 14) #[] #[], .string ⟨#[116, 114, 105, 109]⟩, .func (.func 15) #[] #[]]
set_option maxHeartbeats 400000 in
theorem passes_any (w : World) :
    Calls Tryz.prog 7 #[] w fun e w' => e = .returned (.slice (some ⟨w.heap.size, 0, none⟩) 8 8) ∧ w.alloc (.cells PC 30) = w' := by
  go_enter Tryz.func7, Tryz.ntmps7
  go_wp2
  go_ret
  exact ⟨rfl, rfl⟩
theorem pc_name (w : World) (k : Nat) (hk : k < 8) : (w.alloc (.cells PC 30)).cell? ⟨w.heap.size, k * 2, none⟩ = some (.string (nm.getD k ByteArray.empty)) := by
  match k, hk with
  | 0, _ | 1, _ | 2, _ | 3, _ | 4, _ | 5, _ | 6, _ | 7, _ => (unfold World.cell?; rw [heap_alloc_new]; rfl)
theorem pc_func (w : World) (k : Nat) (hk : k < 8) : (w.alloc (.cells PC 30)).cell? ⟨w.heap.size, k * 2 + 1, none⟩ = some (.func (.func (8 + k)) #[] #[]) := by
  match k, hk with
  | 0, _ | 1, _ | 2, _ | 3, _ | 4, _ | 5, _ | 6, _ | 7, _ => (unfold World.cell?; rw [heap_alloc_new]; rfl)
theorem info9 : (Tryz.prog.info? 9).map (fun i => (i.zero, i.size, i.bytes)) = some (some (.string ⟨#[]⟩), 1, 16) := by kernel_rfl
theorem own_base_le {w : World} {b b' n : Nat} {e : TypeId} {v : Value} {xs : List Value} (h : w.ownsRow b e 1 v n xs) (hb : b' ≤ b) : w.ownsRow b' e 1 v n xs := by
  obtain ⟨h1, h2⟩ := h
  refine ⟨h1, ?_⟩
  rcases h2 with h2 | ⟨g, cap, cur, rfl, hg, r⟩
  · exact .inl h2
  · exact .inr ⟨g, cap, cur, rfl, by omega, r⟩
theorem below_one {w wr : World} {o : Obj} (h : Below (w.heap.size + 1) (w.alloc o) wr) : Below w.heap.size w wr := by
  have h1 : Below w.heap.size (w.alloc o) wr := h.mono (by omega)
  exact ((Below.refl w.heap.size w).alloc (Nat.le_refl _) o).trans h1
theorem nv_take (k : Nat) (hk : k < 8) : nv.take k ++ [.string (nm.getD k ByteArray.empty)] = nv.take (k + 1) := by
  match k, hk with
  | 0, _ | 1, _ | 2, _ | 3, _ | 4, _ | 5, _ | 6, _ | 7, _ => rfl
theorem nv_len (k : Nat) (hk : k ≤ 8) : (nv.take k).length = k := by
  have : nv.length = 8 := rfl
  simp [this]; omega
set_option maxRecDepth 100000 in
set_option maxHeartbeats 1000000 in
theorem Passes_any (w : World) :
    Calls Tryz.prog 4 #[] w fun e w' => ∃ v, e = .returned v ∧ w'.ownsRow w.heap.size 9 1 v 8 nv ∧ Below w.heap.size w w' := by
  obtain ⟨i0, hi, hz0, hz1, hz2⟩ := info_parts info9
  have hN := pc_name w
  have hF := pc_func w
  go_enter Tryz.func4, Tryz.ntmps4
  go_wp2_with (go_at_call 7; refine (passes_any _).mono ?_; rintro e w' ⟨rfl, rfl⟩)
  go_loopw [1, 3, 6] (fun v b i wr => ∃ k : Nat, k ≤ 8 ∧ i = .int .i64 k ∧ wr.ownsRow (w.heap.size + 1) 9 1 v k (nv.take k) ∧ Below (w.heap.size + 1) (w.alloc (.cells PC 30)) wr) (fun _ _ i _ => 8 - (intOf i).toNat)
  case atStart => exact ⟨0, by omega, rfl, World.ownsRow_nil _ _ _ _, Below.refl _ _⟩
  case round =>
    obtain ⟨k, hk, rfl, hown, hb⟩ := hrel
    by_cases hlt : k < 8
    · have hc1 : wr.cell? ⟨w.heap.size, k * 2, none⟩ = some (.string (nm.getD k ByteArray.empty)) := (hb.cell (p := ⟨_, _, none⟩) (by simp)).trans (hN k hlt)
      have hc2 : wr.cell? ⟨w.heap.size, k * 2 + 1, none⟩ = some (.func (.func (8 + k)) #[] #[]) := (hb.cell (p := ⟨_, _, none⟩) (by simp)).trans (hF k hlt)
      clear hN hF
      obtain ⟨s, hs⟩ : ∃ s, nm.getD k ByteArray.empty = s := ⟨_, rfl⟩
      have hnt := nv_take k hlt
      rw [hs] at hc1 hnt
      have Hnt := Lib.hid hnt
      clear hnt hs
      have hln := nv_len k hk
      have Hln := Lib.hid hln
      clear hln
      go_wp2_with (at_builtin; refine wpList_append_own _ rfl _ _ 22 rfl (w.heap.size + 1) 9 i0 (.string ⟨#[]⟩) 1 16 Tryz.underlying22 hi hz0 hz1 hz2 rfl (by decide) _ _ _ rfl ((hown.alloc _).alloc _) ⟨wr.heap.size + 1, 0, none⟩ 1 1 [.string s] rfl rfl ?c1 ?c2 ?c3 ?c4 ?c5 ?_)
      case c1 => simpa using cell_one_new (wr.alloc (.cells #[.string s, .func (.func (8 + k)) #[] #[]] 30)) (.string s) 9
      case c2 => intro u hu; rw [List.mem_singleton.1 hu]; rfl
      case c3 => unfold maxLen; omega
      case c4 => omega
      case c5 => have := hb.size; simp at this ⊢; omega
      intro v' w1 hown1 hg _
      have hown2 : w1.ownsRow (w.heap.size + 1) 9 1 v' (k + 1) (nv.take (k + 1)) := by rw [← Hnt.out]; exact hown1
      have hb2 : Below (w.heap.size + 1) (w.alloc (.cells PC 30)) w1 := by
        have h0 : w.heap.size + 1 ≤ wr.heap.size := by have := hb.size; simpa using this
        refine ((hb.alloc h0 _).alloc (by simp; omega) _).grown hg (by simp; omega) (fun j hj => (hown.lt j hj).1)
      clear hown hown1 hb hc1 hc2 hg
      go_wp2
      go_roundw
      case rel => exact ⟨k + 1, by omega, by go_num, hown2, hb2⟩
      case measure => simp [intOf]; omega
    · obtain rfl : k = 8 := by omega
      go_wp2
      go_ret
      exact ⟨_, rfl, own_base_le hown (by omega), below_one hb⟩

def RC : Array Value := #[.string ⟨#[115, 112, 101, 99, 105, 97, 108]⟩, .string ⟨#[115, 105, 109, 112, 108, 105, 102, 121]⟩, .string ⟨#[99, 97, 115, 101, 99, 97, 115, 101]⟩, .string ⟨#[105, 110, 119, 97, 114, 100]⟩, .string ⟨#[111, 117, 116, 119, 97, 114, 100]⟩, .string ⟨#[119, 111, 114, 107, 119, 114, 97, 112]⟩, .string ⟨#[115, 116, 114, 105, 99, 116]⟩, .string ⟨#[116, 114, 105, 109]⟩]
set_option maxHeartbeats 400000 in
theorem refPasses_any (w : World) :
    Calls Tryz.prog 6 #[] w fun e w' => e = .returned (.slice (some ⟨w.heap.size, 0, none⟩) 8 8) ∧ w.alloc (.cells RC 9) = w' := by
  go_enter Tryz.func6, Tryz.ntmps6
  go_wp2
  go_ret
  exact ⟨rfl, rfl⟩
set_option maxRecDepth 100000 in
set_option maxHeartbeats 1000000 in
theorem texts_same (g h c1 c2 : Nat) (w : World) (hA : ∀ j, j < 8 → w.cell? ⟨g, j, none⟩ = some (.string (nm.getD j ByteArray.empty))) (hB : ∀ j, j < 8 → w.cell? ⟨h, j, none⟩ = some (.string (nm.getD j ByteArray.empty))) :
    Calls Tryz.prog 5 #[.slice (some ⟨g, 0, none⟩) 8 c1, .slice (some ⟨h, 0, none⟩) 8 c2] w fun e w' => e = .returned (.bool true) ∧ ∃ n, w.drewN n = w' := by
  have HA := Lib.hid hA
  have HB := Lib.hid hB
  clear hA hB
  go_enter Tryz.func5, Tryz.ntmps5
  go_wp2
  go_loopw [5] (fun i wr => ∃ k : Nat, k ≤ 8 ∧ i = .int .i64 k ∧ ∃ n, wr = w.drewN n) (fun i _ => 8 - (intOf i).toNat)
  case atStart => exact ⟨0, by omega, rfl, 0, rfl⟩
  case round =>
    obtain ⟨k, hk, rfl, n, rfl⟩ := hrel
    by_cases hlt : k < 8
    · have hc1 := HA.out k hlt
      have hc2 := HB.out k hlt
      obtain ⟨s, hs⟩ : ∃ s, nm.getD k ByteArray.empty = s := ⟨_, rfl⟩
      rw [hs] at hc1 hc2
      clear hs
      have hl2 : (k : Int) < 8 := by omega
      go_wp2
      go_quiet (fail)
      go_wp2
      go_roundw
      case rel => exact ⟨k + 1, by omega, by go_num, n + nq, rfl⟩
      case measure => simp [intOf]; omega
    · obtain rfl : k = 8 := by omega
      go_wp2
      go_ret
      exact ⟨rfl, n, rfl⟩

theorem rc_cell (w : World) (j : Nat) (hj : j < 8) : (w.alloc (.cells RC 9)).cell? ⟨w.heap.size, j, none⟩ = some (.string (nm.getD j ByteArray.empty)) := by
  match j, hj with
  | 0, _ | 1, _ | 2, _ | 3, _ | 4, _ | 5, _ | 6, _ | 7, _ => (unfold World.cell?; rw [heap_alloc_new]; rfl)
theorem nv_at (j : Nat) (hj : j < 8) : nv[j]? = some (.string (nm.getD j ByteArray.empty)) := by
  match j, hj with
  | 0, _ | 1, _ | 2, _ | 3, _ | 4, _ | 5, _ | 6, _ | 7, _ => rfl
/-- Passes, said of cells. -/
theorem Passes_cells (w : World) :
    Calls Tryz.prog 4 #[] w fun e w' => ∃ g c, e = .returned (.slice (some ⟨g, 0, none⟩) 8 c) ∧ (∀ j, j < 8 → w'.cell? ⟨g, j, none⟩ = some (.string (nm.getD j ByteArray.empty))) ∧ (∀ j, w'.frozen? ⟨g, j, none⟩ = false) ∧ w.heap.size ≤ g ∧ g < w'.heap.size ∧ Below w.heap.size w w' := by
  refine (Passes_any w).mono ?_
  rintro e w' ⟨v, rfl, ⟨h1, h2⟩, hb⟩
  rcases h2 with ⟨_, h0⟩ | ⟨g, cap, cur, rfl, hg, hh, hc, hm, hs, ht⟩
  · omega
  · refine ⟨g, cap, rfl, fun j hj => ?_, fun j => ?_, hg, (Array.getElem?_eq_some_iff.1 hh).1, hb⟩
    · have h3 := nv_at j hj
      rw [← ht, List.getElem?_take, if_pos (by omega)] at h3
      simpa [World.cell?, hh] using h3
    · simp [World.frozen?, hh]
theorem below_drawn {B : Nat} {a w : World} (h : Below B a w) : ∀ n, Below B a (w.drewN n)
  | 0 => h
  | n + 1 => by exact (below_drawn h n).drew
set_option maxRecDepth 100000 in
set_option maxHeartbeats 1000000 in
theorem law_any (i : Int) (s : ByteArray) (w : World) :
    Calls Tryz.prog 3 #[.int .i64 i, .string s] w fun e w' => e = .returned (.bool true) ∧ Below w.heap.size w w' := by
  by_cases h0 : 0 ≤ i
  · by_cases h8 : i < 8
    · obtain ⟨k, rfl⟩ := Int.eq_ofNat_of_zero_le h0
      have hk : k < 8 := by omega
      go_enter Tryz.func3, Tryz.ntmps3
      go_wp2_with fail
      refine (Passes_cells _).mono ?_
      rintro e w1 ⟨g, c, rfl, hC, hZ, hg0, hg1, hb1⟩
      have HC := Lib.hid hC
      have HZ := Lib.hid hZ
      clear hC hZ
      go_wp2_with fail
      refine (refPasses_any _).mono ?_
      rintro e w2 ⟨rfl, rfl⟩
      go_wp2_with fail
      refine (texts_same g w1.heap.size c 8 _ (fun j hj => ?_) (fun j hj => rc_cell w1 j hj)).mono ?_
      · rw [World.cell?_alloc_past (hn := hg1)]; exact HC.out j hj
      rintro e w3 ⟨rfl, n, rfl⟩
      have hc := HC.out k hk
      have hz := HZ.out k
      obtain ⟨t, ht⟩ : ∃ t, nm.getD k ByteArray.empty = t := ⟨_, rfl⟩
      rw [ht] at hc
      clear HC HZ ht
      go_wp2_with fail
      refine (Passes_cells _).mono ?_
      rintro e w4 ⟨g4, c4, rfl, hC4, hZ4, hg04, hg14, hb4⟩
      have HC4 := Lib.hid hC4
      clear hC4 hZ4
      go_wp2_with fail
      refine (refPasses_any _).mono ?_
      rintro e w5 ⟨rfl, rfl⟩
      go_wp2_with fail
      refine (texts_same g4 w4.heap.size c4 8 _ (fun j hj => ?_) (fun j hj => rc_cell w4 j hj)).mono ?_
      · rw [World.cell?_alloc_past (hn := hg14)]; exact HC4.out j hj
      rintro e w6 ⟨rfl, n6, rfl⟩
      go_wp2
      go_ret
      refine ⟨rfl, below_drawn ?_ n6⟩
      have hx := (below_drawn (hb1.alloc hb1.size (.cells RC 9)) n).setCell (p := ⟨g, k, none⟩) hg0 (.string s)
      have hy := hx.trans (hb4.mono hx.size)
      exact hy.alloc hy.size _
    · 
      go_enter Tryz.func3, Tryz.ntmps3
      go_wp2_with fail
      refine (Passes_cells _).mono ?_
      rintro e w1 ⟨g, c, rfl, hC, hZ, hg0, hg1, hb1⟩
      have HC := Lib.hid hC
      have HZ := Lib.hid hZ
      clear hC hZ
      go_wp2_with fail
      refine (refPasses_any _).mono ?_
      rintro e w2 ⟨rfl, rfl⟩
      go_wp2_with fail
      refine (texts_same g w1.heap.size c 8 _ (fun j hj => ?_) (fun j hj => rc_cell w1 j hj)).mono ?_
      · rw [World.cell?_alloc_past (hn := hg1)]; exact HC.out j hj
      rintro e w3 ⟨rfl, n, rfl⟩
      clear HC HZ
      go_wp2_with fail
      refine (Passes_cells _).mono ?_
      rintro e w4 ⟨g4, c4, rfl, hC4, hZ4, hg04, hg14, hb4⟩
      have HC4 := Lib.hid hC4
      clear hC4 hZ4
      go_wp2_with fail
      refine (refPasses_any _).mono ?_
      rintro e w5 ⟨rfl, rfl⟩
      go_wp2_with fail
      refine (texts_same g4 w4.heap.size c4 8 _ (fun j hj => ?_) (fun j hj => rc_cell w4 j hj)).mono ?_
      · rw [World.cell?_alloc_past (hn := hg14)]; exact HC4.out j hj
      rintro e w6 ⟨rfl, n6, rfl⟩
      go_wp2
      go_ret
      refine ⟨rfl, below_drawn ?_ n6⟩
      have hx := below_drawn (hb1.alloc hb1.size (.cells RC 9)) n
      have hy := hx.trans (hb4.mono hx.size)
      exact hy.alloc hy.size _
  · have h0' : i < 0 := by omega
    go_enter Tryz.func3, Tryz.ntmps3
    go_wp2_with fail
    refine (Passes_cells _).mono ?_
    rintro e w1 ⟨g, c, rfl, hC, hZ, hg0, hg1, hb1⟩
    have HC := Lib.hid hC
    have HZ := Lib.hid hZ
    clear hC hZ
    go_wp2_with fail
    refine (refPasses_any _).mono ?_
    rintro e w2 ⟨rfl, rfl⟩
    go_wp2_with fail
    refine (texts_same g w1.heap.size c 8 _ (fun j hj => ?_) (fun j hj => rc_cell w1 j hj)).mono ?_
    · rw [World.cell?_alloc_past (hn := hg1)]; exact HC.out j hj
    rintro e w3 ⟨rfl, n, rfl⟩
    clear HC HZ
    go_wp2_with fail
    refine (Passes_cells _).mono ?_
    rintro e w4 ⟨g4, c4, rfl, hC4, hZ4, hg04, hg14, hb4⟩
    have HC4 := Lib.hid hC4
    clear hC4 hZ4
    go_wp2_with fail
    refine (refPasses_any _).mono ?_
    rintro e w5 ⟨rfl, rfl⟩
    go_wp2_with fail
    refine (texts_same g4 w4.heap.size c4 8 _ (fun j hj => ?_) (fun j hj => rc_cell w4 j hj)).mono ?_
    · rw [World.cell?_alloc_past (hn := hg14)]; exact HC4.out j hj
    rintro e w6 ⟨rfl, n6, rfl⟩
    go_wp2
    go_ret
    refine ⟨rfl, below_drawn ?_ n6⟩
    have hx := below_drawn (hb1.alloc hb1.size (.cells RC 9)) n
    have hy := hx.trans (hb4.mono hx.size)
    exact hy.alloc hy.size _
end Go.Proofs.YtbfllilninhbfaaGreatDoor.Passes
