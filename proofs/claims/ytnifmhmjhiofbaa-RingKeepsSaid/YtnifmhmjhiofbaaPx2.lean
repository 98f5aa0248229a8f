-- Written by the session's own turn of the kit's print program (wip/patch_print.py). Not trusted: Lean checks it.
import Derived.Test.YtnifmhmjhiofbaaPx0
import Derived.Test.YtnifmhmjhiofbaaPx1
namespace Go.Proofs.Ytnifmhmjhiofbaa.P
open Go.RowKit Go.Proofs.YtnifmhmjhiofbaaW.PrintWords Go.Proofs.YtnifmhmjhiofbaaW.PrintLast Go.Proofs.YtnifmhmjhiofbaaW.PrintMore
attribute [local go_sem] max2_int min2_int max_two min_two max_three min_three max_four min_four   -- for this text's walks alone
set_option linter.unusedVariables false
set_option linter.unusedSimpArgs false

/-! ### bilgelaw07_sure: function 5 -/
/-- Which place in the row the k-th last thing has. -/
def Ring.idx (room next k : Int) : Int := if next - 1 - k < 0 then next - 1 - k + room else next - 1 - k
theorem Ring.idx_mod {room next k : Int} (h1 : 1 ≤ room) (h2 : 0 ≤ next) (h3 : next < room) (h4 : 0 ≤ k) (h5 : k < room) : (next - 1 - k + 2 * room) % room = Ring.idx room next k := by
  have e : next - 1 - k + 2 * room = (next - 1 - k + room) + room * 1 := by omega
  unfold Ring.idx
  split
  · rw [e, Int.add_mul_emod_self_left, Int.emod_eq_of_lt (by omega) (by omega)]
  · rw [show next - 1 - k + 2 * room = (next - 1 - k) + room * 2 by omega, Int.add_mul_emod_self_left, Int.emod_eq_of_lt (by omega) (by omega)]
/-- The log's cells. -/
def Ring.At (w : World) (g : Nat) (all : List Int) (room next many : Int) : Prop :=
  w.heap[g]? = some (.cells (all.map (Value.int .u8) ++ [Value.int .i64 room, Value.int .i64 next, Value.int .i64 many]).toArray 41 (0, 0)) ∧ all.length = 64
/-- What the cells say: the last things, the last one first. -/
def Ring.Ok (all : List Int) (room next : Int) (L : List Int) : Prop :=
  1 ≤ room ∧ room ≤ 64 ∧ 0 ≤ next ∧ next < room ∧ all.length = 64 ∧ (L.length : Int) ≤ room ∧ ∀ k : Nat, k < L.length → rd all (Ring.idx room next k) = L.getD k 0
/-- A log with room for so many, and what it holds. -/
def Ring.V (w : World) (g : Nat) (room : Int) (L : List Int) : Prop := ∃ all next, Ring.At w g all room next L.length ∧ Ring.Ok all room next L
theorem Ring.V_lt {w : World} {g : Nat} {room : Int} {L : List Int} (h : Ring.V w g room L) : g < w.heap.size := by
  obtain ⟨all, next, ⟨h, _⟩, _⟩ := h
  exact blk_lt h
theorem Ring.V_below {w w1 : World} {g : Nat} {room : Int} {L : List Int} (h : Ring.V w g room L) (hb : Below w.heap.size w w1) : Ring.V w1 g room L := by
  obtain ⟨all, next, ⟨h, h2⟩, h3⟩ := h
  exact ⟨all, next, ⟨blk_below h hb, h2⟩, h3⟩
theorem Ring.V_grown {w w1 : World} {g g' : Nat} {room : Int} {L : List Int} (h : Ring.V w g room L) (hb : w.grownBy w1 (some g')) (hne : g ≠ g') : Ring.V w1 g room L := by
  obtain ⟨all, next, ⟨h, h2⟩, h3⟩ := h
  exact ⟨all, next, ⟨blk_grown h hb (by simpa using hne), h2⟩, h3⟩
section
variable {w : World} {g : Nat} {all : List Int} {room next many : Int}
theorem Ring.At.cRoom (h : Ring.At w g all room next many) : w.cell? ⟨g, 64, none⟩ = some (.int .i64 room) := by
  rw [blk_cell h.1]; simp [List.getElem?_append, h.2]
theorem Ring.At.cNext (h : Ring.At w g all room next many) : w.cell? ⟨g, 65, none⟩ = some (.int .i64 next) := by
  rw [blk_cell h.1]; simp [List.getElem?_append, h.2]
theorem Ring.At.cMany (h : Ring.At w g all room next many) : w.cell? ⟨g, 66, none⟩ = some (.int .i64 many) := by
  rw [blk_cell h.1]; simp [List.getElem?_append, h.2]
theorem Ring.At.cAll (h : Ring.At w g all room next many) {i : Int} (h0 : 0 ≤ i) (h1 : i < 64) : w.cell? ⟨g, i.toNat, none⟩ = some (.int .u8 (rd all i)) := by
  have hi : i.toNat < all.length := by rw [h.2]; omega
  rw [blk_cell h.1]; simp [List.getElem?_append, hi, rd, List.getD]
theorem Ring.At.frozen (h : Ring.At w g all room next many) (i : Nat) : w.frozen? ⟨g, i, none⟩ = false := blk_frozen h.1 i
theorem Ring.At.put (h : Ring.At w g all room next many) {i : Int} (b : Int) (h0 : 0 ≤ i) (h1 : i < 64) : Ring.At (w.setCell ⟨g, i.toNat, none⟩ (.int .u8 b)) g (all.set i.toNat b) room next many := by
  have hi : i.toNat < all.length := by rw [h.2]; omega
  refine ⟨blk_put h.1 _ _ ?_, by simpa using h.2⟩
  rw [List.setIfInBounds_toArray, List.set_append_left _ _ (by simpa using hi), ← List.map_set]
theorem Ring.At.setNext (h : Ring.At w g all room next many) (x : Int) : Ring.At (w.setCell ⟨g, 65, none⟩ (.int .i64 x)) g all room x many := by
  refine ⟨blk_put h.1 _ _ ?_, h.2⟩
  rw [List.setIfInBounds_toArray, List.set_append_right _ _ (by simp [h.2])]
  simp [h.2]
theorem Ring.At.setMany (h : Ring.At w g all room next many) (x : Int) : Ring.At (w.setCell ⟨g, 66, none⟩ (.int .i64 x)) g all room next x := by
  refine ⟨blk_put h.1 _ _ ?_, h.2⟩
  rw [List.setIfInBounds_toArray, List.set_append_right _ _ (by simp [h.2])]
  simp [h.2]
end
theorem Ring.grown_set (w : World) (g i : Nat) (v : Value) : w.grownBy (w.setCell ⟨g, i, none⟩ v) (some g) := by
  obtain ⟨s1, s2, s3, s4⟩ := setCells_same g [v] i w
  exact ⟨s1, s2, s3, Nat.le_of_eq s4.symm, fun q _ hq => setCells_far [v] i q (fun he => hq (by rw [he]))⟩
set_option maxHeartbeats 1000000 in
theorem Ring.none_ok {w : World} {g : Nat} {room : Int} {L : List Int} (h : Ring.V w g room L) : Calls Try.prog 15 #[.pointer (some ⟨g, 0, none⟩)] w fun e w' => e = .returned (.bool false) ∧ Below w.heap.size w w' := by
  have hu := Try.underlying41
  obtain ⟨all, next, hA, hO⟩ := h
  have h1 := hA.cRoom
  have h2 : (room == 0) = false := by have := hO.1; simp; omega
  go_enter Try.func15, Try.ntmps15
  go_wp2
  go_ret
  exact ⟨rfl, Below.refl _ _⟩
set_option maxHeartbeats 1000000 in
theorem Ring.none_nil {w : World} : Calls Try.prog 15 #[.pointer none] w fun e w' => e = .returned (.bool true) ∧ Below w.heap.size w w' := by
  go_enter Try.func15, Try.ntmps15
  go_wp2
  go_ret
  exact ⟨rfl, Below.refl _ _⟩
set_option maxHeartbeats 1000000 in
theorem Ring.len_ok {w : World} {g : Nat} {room : Int} {L : List Int} (h : Ring.V w g room L) : Calls Try.prog 14 #[.pointer (some ⟨g, 0, none⟩)] w fun e w' => e = .returned (.int .i64 L.length) ∧ Below w.heap.size w w' := by
  have hu := Try.underlying41
  have HV := Aside0.mk h
  clear h
  go_enter Try.func14, Try.ntmps14
  go_wp2_with (first | (go_at_call 15; refine (Ring.none_ok HV.out).mono ?_; rintro e w1 ⟨rfl, hb⟩; obtain ⟨all, next, hA, hO⟩ := Ring.V_below HV.out hb; have h1 := hA.cMany))
  go_ret
  exact ⟨rfl, hb⟩
set_option maxHeartbeats 1000000 in
theorem Ring.len_nil {w : World} : Calls Try.prog 14 #[.pointer none] w fun e w' => e = .returned (.int .i64 0) ∧ Below w.heap.size w w' := by
  go_enter Try.func14, Try.ntmps14
  go_wp2_with (first | (go_at_call 15; refine Ring.none_nil.mono ?_; rintro e w1 ⟨rfl, hb⟩))
  go_ret
  exact ⟨rfl, hb⟩
theorem Ring.Ok.put {all : List Int} {room next : Int} {L : List Int} (h : Ring.Ok all room next L) (b : Int) : Ring.Ok (all.set next.toNat b) room (if next + 1 = room then 0 else next + 1) ((b :: L).take room.toNat) := by
  obtain ⟨h1, h2, h3, h4, h5, h6, h7⟩ := h
  refine ⟨h1, h2, by split <;> omega, by split <;> omega, by simpa using h5, by rw [List.length_take]; omega, ?_⟩
  intro k hk
  rw [List.length_take, List.length_cons] at hk
  have e0 : ∀ (i : Int), 0 ≤ i → i < 64 → rd (all.set next.toNat b) i = if i = next then b else rd all i := by
    intro i i0 i1
    simp only [rd, List.getD_eq_getElem?_getD, List.getElem?_set]
    by_cases hi : next.toNat = i.toNat
    · rw [if_pos hi, if_pos (by omega), if_pos (by omega)]; rfl
    · rw [if_neg hi, if_neg (by omega)]
  have hi0 : 0 ≤ Ring.idx room (if next + 1 = room then 0 else next + 1) k ∧ Ring.idx room (if next + 1 = room then 0 else next + 1) k < 64 := by
    unfold Ring.idx
    split <;> split <;> omega
  rw [e0 _ hi0.1 hi0.2]
  have hg : ((b :: L).take room.toNat).getD k 0 = (b :: L).getD k 0 := by
    simp only [List.getD_eq_getElem?_getD, List.getElem?_take]
    rw [if_pos (by omega)]
  rw [hg]
  cases k with
  | zero =>
    rw [if_pos (by unfold Ring.idx; split <;> split <;> omega)]
    rfl
  | succ k =>
    rw [if_neg (by unfold Ring.idx; split <;> split <;> omega), show Ring.idx room (if next + 1 = room then 0 else next + 1) ((k + 1 : Nat) : Int) = Ring.idx room next k by unfold Ring.idx; split <;> split <;> split <;> omega, h7 k (by omega)]
    rfl
set_option maxHeartbeats 4000000 in
theorem Ring.put_ok {w : World} {g : Nat} {room : Int} {L : List Int} (h : Ring.V w g room L) (b : Int) : Calls Try.prog 7 #[.pointer (some ⟨g, 0, none⟩), .int .u8 b] w fun e w' => e = .returned (.tuple #[]) ∧ Ring.V w' g room ((b :: L).take room.toNat) ∧ w.grownBy w' (some g) := by
  have hu := Try.underlying41
  have hu2 := Try.underlying39
  have HV := Aside0.mk h
  clear h
  go_enter Try.func7, Try.ntmps7
  go_wp2_with (first | (go_at_call 15; (refine (Ring.none_ok HV.out).mono ?_; rintro e w1 ⟨rfl, hb⟩; obtain ⟨all, next, hA, hO⟩ := Ring.V_below HV.out hb; have h1 := hA.cRoom; have h2 := hA.cNext; have h3 := hA.cMany; have h4 := hO.2.2.1; have h5 := hO.2.2.2.1; have h6 : next < 64 := (by have := hO.2.1; omega); have h7 := hA.frozen next.toNat; have h8 := hA.cAll h4 (by omega))))
  go_still_tail 9, (by kernel_rfl)
  change wpList _ _ _ _ _ w1.drew
  have hA2 : Ring.At w1.drew g all room next L.length := hA
  have hg2 : w.grownBy w1.drew (some g) := ⟨hb.os, hb.tape, hb.output, hb.size, fun k hk _ => hb.block k hk⟩
  clear h1 h2 h3 h7 h8 hA hb
  generalize w1.drew = w2 at hA2 hg2 ⊢
  have h7 := hA2.frozen next.toNat
  have h8 := hA2.cAll h4 (by omega)
  go_wp2
  have hA3 := hA2.put b h4 (by omega)
  have hg3 := hg2.trans (Ring.grown_set w2 g next.toNat (.int .u8 b))
  clear h7 h8 hA2 hg2
  generalize w2.setCell ⟨g, next.toNat, none⟩ (.int .u8 b) = w3 at hA3 hg3 ⊢
  have h1 := hA3.cRoom
  have h2 := hA3.cNext
  have h9 : room ≠ 0 := by omega
  have h10 : IntKind.i64.wrap (next + 1) = next + 1 := by rw [i64_w]; unfold wrap64; omega
  have h11 : Int.tmod (next + 1) room = if next + 1 = room then 0 else next + 1 := by
    rw [Int.tmod_eq_emod_of_nonneg (by omega)]
    split
    · rename_i e; rw [e]; exact Int.emod_self
    · exact Int.emod_eq_of_lt (by omega) (by omega)
  go_still_tail 13, (by kernel_rfl)
  change wpList _ _ _ _ _ w3.drew
  have hA4 : Ring.At w3.drew g (all.set next.toNat b) room next L.length := hA3
  have hg4 : w.grownBy w3.drew (some g) := hg3.trans ⟨rfl, rfl, rfl, Nat.le_refl _, fun _ _ _ => rfl⟩
  clear h1 h2 hA3 hg3 h11 h10
  generalize w3.drew = w4 at hA4 hg4 ⊢
  have h7 := hA4.frozen 65
  have h8 := hA4.cNext
  have hlen : (L.length : Int) ≤ room := hO.2.2.2.2.2.1
  have hr64 : room ≤ 64 := hO.2.1
  have hO2 := hO.put b
  clear hO
  generalize (if next + 1 = room then 0 else next + 1) = next' at hO2 ⊢
  go_wp2
  have hA5 := hA4.setNext next'
  have hg5 := hg4.trans (Ring.grown_set w4 g 65 (.int .i64 next'))
  clear h7 h8 hA4 hg4
  generalize w4.setCell ⟨g, 65, none⟩ (.int .i64 next') = w5 at hA5 hg5 ⊢
  have h1 := hA5.cRoom
  have h2 := hA5.cMany
  have h10 : IntKind.i64.wrap ((L.length : Int) + 1) = (L.length : Int) + 1 := by rw [i64_w]; unfold wrap64; omega
  have h11 : (if room < (L.length : Int) + 1 then room else (L.length : Int) + 1) = (((b :: L).take room.toNat).length : Int) := by
    rw [List.length_take, List.length_cons]
    split <;> omega
  go_still_tail 13, (by kernel_rfl)
  try rw [h11]
  change wpList _ _ _ _ _ w5.drew
  have hA6 : Ring.At w5.drew g (all.set next.toNat b) room next' L.length := hA5
  have hg6 : w.grownBy w5.drew (some g) := hg5.trans ⟨rfl, rfl, rfl, Nat.le_refl _, fun _ _ _ => rfl⟩
  clear h1 h2 hA5 hg5 h11 h10
  generalize w5.drew = w6 at hA6 hg6 ⊢
  have h7 := hA6.frozen 66
  have h8 := hA6.cMany
  go_wp2
  go_end0
  exact ⟨rfl, ⟨_, _, by rw [List.length_take, List.length_cons]; exact hA6.setMany _, hO2⟩, hg6.trans (Ring.grown_set w6 g 66 _)⟩
set_option maxHeartbeats 1000000 in
theorem Ring.put_nil {w : World} (b : Int) : Calls Try.prog 7 #[.pointer none, .int .u8 b] w fun e w' => e = .returned (.tuple #[]) ∧ Below w.heap.size w w' := by
  go_enter Try.func7, Try.ntmps7
  go_wp2_with (first | (go_at_call 15; refine Ring.none_nil.mono ?_; rintro e w1 ⟨rfl, hb⟩))
  refine bodyPost_ret (results_none rfl _ _ _) rfl ?_
  exact ⟨rfl, hb⟩
set_option maxHeartbeats 4000000 in
theorem Ring.clear_ok {w : World} {g : Nat} {room : Int} {L : List Int} (h : Ring.V w g room L) : Calls Try.prog 10 #[.pointer (some ⟨g, 0, none⟩)] w fun e w' => e = .returned (.tuple #[]) ∧ Ring.V w' g room [] ∧ w.grownBy w' (some g) := by
  have hu := Try.underlying41
  have HV := Aside0.mk h
  clear h
  go_enter Try.func10, Try.ntmps10
  go_wp2_with (first | (go_at_call 15; refine (Ring.none_ok HV.out).mono ?_; rintro e w1 ⟨rfl, hb⟩; obtain ⟨all, next, hA, hO⟩ := Ring.V_below HV.out hb; have h7 := hA.frozen 66; have h8 := hA.cMany))
  go_end0
  exact ⟨rfl, ⟨_, _, hA.setMany 0, hO.1, hO.2.1, hO.2.2.1, hO.2.2.2.1, hO.2.2.2.2.1, by have := hO.1; simp; omega, fun k hk => by simp at hk⟩, World.grownBy.trans ⟨hb.os, hb.tape, hb.output, hb.size, fun k hk _ => hb.block k hk⟩ (Ring.grown_set w1 g 66 _)⟩
set_option maxHeartbeats 4000000 in
theorem Ring.zero (w : World) : (zeroValue 41).run Try.prog w = .ok (.agg (List.replicate 64 (Value.int .u8 0) ++ [Value.int .i64 0, Value.int .i64 0, Value.int .i64 0]).toArray) w := by kernel_rfl
theorem Ring.zero_put (room : Int) : ((List.replicate 64 (Value.int .u8 0) ++ [Value.int .i64 0, Value.int .i64 0, Value.int .i64 0]).toArray).setIfInBounds 64 (.int .i64 room) = ((List.replicate 64 (0 : Int)).map (Value.int .u8) ++ [Value.int .i64 room, Value.int .i64 0, Value.int .i64 0]).toArray := by
  rw [List.setIfInBounds_toArray, List.set_append_right _ _ (by simp)]
  simp
set_option maxHeartbeats 4000000 in
theorem Ring.new_ok {w : World} {room : Int} (h1 : 1 ≤ room) (h2 : room ≤ 64) : Calls Try.prog 6 #[.int .i64 room] w fun e w' => ∃ g, e = .returned (.pointer (some ⟨g, 0, none⟩)) ∧ w.heap.size ≤ g ∧ Ring.V w' g room [] ∧ Below w.heap.size w w' := by
  have hu := Try.underlying41
  have h3 : ¬ room < 1 := by omega
  have hz := Ring.zero
  have hp := Ring.zero_put room
  generalize hZ : (List.replicate 64 (Value.int .u8 0) ++ [Value.int .i64 0, Value.int .i64 0, Value.int .i64 0]).toArray = Z at hz hp
  have hs : Z.size = 67 := by rw [← hZ]; simp
  clear hZ
  generalize hY : ((List.replicate 64 (0 : Int)).map (Value.int .u8) ++ [Value.int .i64 room, Value.int .i64 0, Value.int .i64 0]).toArray = Y at hp
  replace hY := Aside0.mk hY
  go_enter Try.func6, Try.ntmps6
  go_wp2
  go_ret
  refine ⟨_, rfl, Nat.le_refl _, ⟨List.replicate 64 0, 0, ⟨(blk_new w _).trans (by rw [← hY.out]; rfl), by simp⟩, h1, h2, Int.le_refl _, by omega, by simp, by simp; omega, fun k hk => by simp at hk⟩, below_alloc (Below.refl _ _) _⟩
set_option maxHeartbeats 4000000 in
theorem Ring.new_no {w : World} {room : Int} (h : room < 1 ∨ 64 < room) : Calls Try.prog 6 #[.int .i64 room] w fun e w' => e = .returned (.pointer none) ∧ Below w.heap.size w w' := by
  rcases h with h | h
  · go_enter Try.func6, Try.ntmps6
    go_wp2
    go_ret
    exact ⟨rfl, Below.refl _ _⟩
  · have h3 : ¬ room < 1 := by omega
    go_enter Try.func6, Try.ntmps6
    go_wp2
    go_ret
    exact ⟨rfl, Below.refl _ _⟩
theorem Ring.info : (Try.prog.info? 5).map (fun i => (i.zero, i.size, i.bytes)) = some (some (.int .u8 0), 1, 1) := by kernel_rfl
theorem Ring.size : (Try.prog.info? 41).map (·.size) = some 67 := by kernel_rfl
set_option maxHeartbeats 4000000 in
theorem Ring.clone_ok {w : World} {g : Nat} {room : Int} {L : List Int} (h : Ring.V w g room L) : Calls Try.prog 11 #[.pointer (some ⟨g, 0, none⟩)] w fun e w' => ∃ g', e = .returned (.pointer (some ⟨g', 0, none⟩)) ∧ w.heap.size ≤ g' ∧ Ring.V w' g' room L ∧ Below w.heap.size w w' := by
  have hu := Try.underlying41
  have HV := Aside0.mk h
  clear h
  have hz := Ring.zero
  generalize hZ : (List.replicate 64 (Value.int .u8 0) ++ [Value.int .i64 0, Value.int .i64 0, Value.int .i64 0]).toArray = Z at hz
  have hs : Z.size = 67 := by rw [← hZ]; simp
  clear hZ
  go_enter Try.func11, Try.ntmps11
  go_wp2_with (first
    | (go_at_call 15; refine (Ring.none_ok HV.out).mono ?_; rintro e w1 ⟨rfl, hb⟩; obtain ⟨all, next, hA, hO⟩ := Ring.V_below HV.out hb; have hA1 := hA.1; have hcs : ((all.map (Value.int .u8) ++ [Value.int .i64 room, Value.int .i64 next, Value.int .i64 (L.length : Int)]).toArray).size = 67 := (by simp [hA.2]); have hco : ((all.map (Value.int .u8) ++ [Value.int .i64 room, Value.int .i64 next, Value.int .i64 (L.length : Int)]).toArray).all (·.oneCell') = true := (by simp [Value.oneCell']); generalize hC : (all.map (Value.int .u8) ++ [Value.int .i64 room, Value.int .i64 next, Value.int .i64 (L.length : Int)]).toArray = C at hA1 hcs hco; replace hC := Aside0.mk hC)
    | (refine wpList_load_row rfl 41 _ rfl g rfl 41 C (0, 0) _ hA1 hu rfl (Ring.size.trans (by rw [hcs])) ?_)
    | (refine wpList_store_row rfl 41 _ _ rfl w1.heap.size C rfl rfl 41 Z (blk_new _ _) (Ring.size.trans (by rw [hcs])) (by rw [hs, hcs]) hco ?_))
  go_ret
  refine ⟨_, rfl, hb.size, ⟨all, next, ⟨(setRow_heap _ _ Z _ _ (0, 0) (blk_new w1 _)).trans (by rw [← hC.out]), hA.2⟩, hO⟩, ⟨hb.os, hb.tape, hb.output, by rw [setRow_size]; exact (below_alloc hb _).size, fun k hk => (setRow_other _ _ _ _ (by have := hb.size; omega)).trans ((below_alloc hb _).block k hk)⟩⟩
set_option maxHeartbeats 4000000 in
theorem Ring.list_ok {w : World} {g : Nat} {room : Int} {L : List Int} (h : Ring.V w g room L) : Calls Try.prog 8 #[.pointer (some ⟨g, 0, none⟩)] w fun e w' => ∃ v, e = .returned v ∧ Kd.R (Kd.int .u8) 5 w' w.heap.size (fun _ => True) v L ∧ Below w.heap.size w w' := by
  have hu := Try.underlying41
  have hu2 := Try.underlying39
  have HV := Aside0.mk h
  have hL : L.length ≤ 64 := by
    obtain ⟨_, _, _, hO⟩ := h
    have := hO.2.1
    have := hO.2.2.2.2.2.1
    omega
  clear h
  go_enter Try.func8, Try.ntmps8
  go_wp2_with (first | (go_at_call 14; refine (Ring.len_ok HV.out).mono ?_; rintro e w1 ⟨rfl, hb⟩; have HB := Aside0.mk hb; clear hb; have HO := Aside0.mk (Kd.R_nil (Kd.int .u8) 5 w1 w.heap.size (fun _ => True))))
  go_loopw [2, 3, 6, 7, 8, 9, 10, 11, 12, 13, 14, 15, 16, 17, 18, 19, 20, 21, 22, 23, 24, 25, 26, 27, 28, 29, 30, 31, 32, 33, 34, 35] (fun v2 v3 v6 v7 v8 v9 v10 v11 v12 v13 v14 v15 v16 v17 v18 v19 v20 v21 v22 v23 v24 v25 v26 v27 v28 v29 v30 v31 v32 v33 v34 v35 wr => ∃ i : Nat, i ≤ L.length ∧ v6 = .int .i64 i ∧ Aside0 (Kd.R (Kd.int .u8) 5 wr w.heap.size (fun _ => True) v2 (L.take i)) ∧ Aside0 (Below w.heap.size w wr)) (fun v2 v3 v6 _ _ _ _ _ _ _ _ _ _ _ _ _ _ _ _ _ _ _ _ _ _ _ _ _ _ _ _ _ _ => L.length - (intOf v6).toNat)
  case atStart => exact ⟨0, Nat.zero_le _, rfl, by simpa using HO, HB⟩
  case round =>
    clear HO HB
    obtain ⟨i, hi, rfl, HO, HB⟩ := hrel
    by_cases hlt : (i : Int) < L.length
    · obtain ⟨all, next, hA, hO⟩ := Ring.V_below HV.out HB.out
      have h1 := hA.cRoom
      have h2 := hA.cNext
      obtain ⟨o1, o2, o3, o4, o5, o6, o7⟩ := hO
      have e1 : IntKind.i64.wrap (next - 1) = next - 1 := by rw [i64_w]; unfold wrap64; omega
      have e2 : IntKind.i64.wrap (next - 1 - (i : Int)) = next - 1 - (i : Int) := by rw [i64_w]; unfold wrap64; omega
      have e3 : IntKind.i64.wrap (2 * room) = 2 * room := by rw [i64_w]; unfold wrap64; omega
      have e4 : IntKind.i64.wrap (next - 1 - (i : Int) + 2 * room) = next - 1 - (i : Int) + 2 * room := by rw [i64_w]; unfold wrap64; omega
      have e5 : Int.tmod (next - 1 - (i : Int) + 2 * room) room = Ring.idx room next i := by
        rw [Int.tmod_eq_emod_of_nonneg (by omega)]
        exact Ring.idx_mod o1 o3 o4 (by omega) (by omega)
      have e6 : room ≠ 0 := by omega
      have j0 : 0 ≤ Ring.idx room next i := by unfold Ring.idx; split <;> omega
      have j1 : Ring.idx room next i < 64 := by unfold Ring.idx; split <;> omega
      have h3 := hA.cAll j0 j1
      have hx := o7 i (by omega)
      generalize Ring.idx room next i = j at e5 j0 j1 h3 hx
      generalize rd all j = x at h3 hx
      replace hx := Aside0.mk hx
      have e7 : IntKind.i64.wrap ((i : Int) + 1) = (i : Int) + 1 := by rw [i64_w]; unfold wrap64; omega
      go_wp2
      refine start_ (n := 27) (S := fun w' => w'.cell? ⟨g, 64, none⟩ = some (.int .i64 room) ∧ w'.cell? ⟨g, 65, none⟩ = some (.int .i64 next) ∧ w'.cell? ⟨g, j.toNat, none⟩ = some (.int .u8 x)) (ds := []) #[false, false, false, false, false, false, false, false, false, false, false, false, false, false, false, false, false, false, false, false, false, false, false, false, false, false, false] (by kernel_rfl) rfl rfl ⟨h1, h2, h3⟩ (fun hHeld => ?_)
      refine pure_ (i := 0) (N := some 9) (v := ?_) (a' := ?_) #[true, false, false, false, false, false, false, false, false, false, false, false, false, false, false, false, false, false, false, false, false, false, false, false, false, false, false] rfl rfl (by kernel_rfl) (fun _ _ _ h => h) (Or.inl ⟨by rfl, ?_⟩) ?_ ?_
      rotate_left
      · intro w'
        go_simp
        first | with_reducible rfl | (simp [Instr.field, go_sem]; rfl)
      rotate_left
      · simp only [Act.put, List.setIfInBounds_toArray, List.set_cons_zero, List.set_cons_succ]
        rfl
      refine pure_ (i := 1) (N := some 10) (v := ?_) (a' := ?_) #[true, true, false, false, false, false, false, false, false, false, false, false, false, false, false, false, false, false, false, false, false, false, false, false, false, false, false] rfl rfl (by kernel_rfl) (fun _ _ _ h => h) (Or.inl ⟨by rfl, ?_⟩) ?_ ?_
      rotate_left
      · intro w'
        go_simp
        first | with_reducible rfl | (simp [Instr.field, go_sem]; rfl)
      rotate_left
      · simp only [Act.put, List.setIfInBounds_toArray, List.set_cons_zero, List.set_cons_succ]
        rfl
      refine pure_ (i := 2) (N := some 11) (v := ?_) (a' := ?_) #[true, true, true, false, false, false, false, false, false, false, false, false, false, false, false, false, false, false, false, false, false, false, false, false, false, false, false] rfl rfl (by kernel_rfl) (fun _ _ _ h => h) (Or.inl ⟨by rfl, ?_⟩) ?_ ?_
      rotate_left
      · intro w'
        go_simp
        first | with_reducible rfl | (simp [Instr.field, go_sem]; rfl)
      rotate_left
      · simp only [Act.put, List.setIfInBounds_toArray, List.set_cons_zero, List.set_cons_succ]
        rfl
      refine pure_ (i := 3) (N := some 12) (v := ?_) (a' := ?_) #[true, true, true, true, false, false, false, false, false, false, false, false, false, false, false, false, false, false, false, false, false, false, false, false, false, false, false] rfl rfl (by kernel_rfl) (fun _ _ _ h => h) (Or.inl ⟨by rfl, ?_⟩) ?_ ?_
      rotate_left
      · intro w'
        go_simp
        first | with_reducible rfl | (simp [Instr.field, go_sem]; rfl)
      rotate_left
      · simp only [Act.put, List.setIfInBounds_toArray, List.set_cons_zero, List.set_cons_succ]
        rfl
      refine pure_ (i := 4) (N := some 13) (v := ?_) (a' := ?_) #[true, true, true, true, true, false, false, false, false, false, false, false, false, false, false, false, false, false, false, false, false, false, false, false, false, false, false] rfl rfl (by kernel_rfl) (fun _ _ _ h => h) (Or.inl ⟨by rfl, ?_⟩) ?_ ?_
      rotate_left
      · intro w'
        go_simp
        first | with_reducible rfl | (simp [Instr.field, go_sem]; rfl)
      rotate_left
      · simp only [Act.put, List.setIfInBounds_toArray, List.set_cons_zero, List.set_cons_succ]
        rfl
      refine take_ (i := 5) (N := some 14) (v := ?_) (a' := ?_) #[true, true, true, true, true, true, false, false, false, false, false, false, false, false, false, false, false, false, false, false, false, false, false, false, false, false, false] rfl rfl (by kernel_rfl) (fun _ _ _ h => h) (Or.inl ⟨by rfl, ?_⟩) hHeld ?_ ?_
      rotate_left
      · rintro w' ⟨s0, s1, s2⟩
        go_simp
        first | with_reducible rfl | (simp [Instr.field, go_sem]; rfl)
      rotate_left
      · simp only [Act.put, List.setIfInBounds_toArray, List.set_cons_zero, List.set_cons_succ]
        rfl
      refine pure_ (i := 6) (N := some 15) (v := ?_) (a' := ?_) #[true, true, true, true, true, true, true, false, false, false, false, false, false, false, false, false, false, false, false, false, false, false, false, false, false, false, false] rfl rfl (by kernel_rfl) (fun _ _ _ h => h) (Or.inl ⟨by rfl, ?_⟩) ?_ ?_
      rotate_left
      · intro w'
        go_simp
        first | with_reducible rfl | (simp [Instr.field, go_sem]; rfl)
      rotate_left
      · simp only [Act.put, List.setIfInBounds_toArray, List.set_cons_zero, List.set_cons_succ]
        rfl
      refine pure_ (i := 7) (N := some 16) (v := ?_) (a' := ?_) #[true, true, true, true, true, true, true, true, false, false, false, false, false, false, false, false, false, false, false, false, false, false, false, false, false, false, false] rfl rfl (by kernel_rfl) (fun _ _ _ h => h) (Or.inl ⟨by rfl, ?_⟩) ?_ ?_
      rotate_left
      · intro w'
        go_simp
        first | with_reducible rfl | (simp [Instr.field, go_sem]; rfl)
      rotate_left
      · simp only [Act.put, List.setIfInBounds_toArray, List.set_cons_zero, List.set_cons_succ]
        rfl
      refine pure_ (i := 8) (N := some 17) (v := ?_) (a' := ?_) #[true, true, true, true, true, true, true, true, true, false, false, false, false, false, false, false, false, false, false, false, false, false, false, false, false, false, false] rfl rfl (by kernel_rfl) (fun _ _ _ h => h) (Or.inl ⟨by rfl, ?_⟩) ?_ ?_
      rotate_left
      · intro w'
        go_simp
        first | with_reducible rfl | (simp [Instr.field, go_sem]; rfl)
      rotate_left
      · simp only [Act.put, List.setIfInBounds_toArray, List.set_cons_zero, List.set_cons_succ]
        rfl
      refine pure_ (i := 9) (N := some 18) (v := ?_) (a' := ?_) #[true, true, true, true, true, true, true, true, true, true, false, false, false, false, false, false, false, false, false, false, false, false, false, false, false, false, false] rfl rfl (by kernel_rfl) (fun _ _ _ h => h) (Or.inl ⟨by rfl, ?_⟩) ?_ ?_
      rotate_left
      · intro w'
        go_simp
        first | with_reducible rfl | (simp [Instr.field, go_sem]; rfl)
      rotate_left
      · simp only [Act.put, List.setIfInBounds_toArray, List.set_cons_zero, List.set_cons_succ]
        rfl
      refine pure_ (i := 10) (N := some 19) (v := ?_) (a' := ?_) #[true, true, true, true, true, true, true, true, true, true, true, false, false, false, false, false, false, false, false, false, false, false, false, false, false, false, false] rfl rfl (by kernel_rfl) (fun _ _ _ h => h) (Or.inl ⟨by rfl, ?_⟩) ?_ ?_
      rotate_left
      · intro w'
        go_simp
        first | with_reducible rfl | (simp [Instr.field, go_sem]; rfl)
      rotate_left
      · simp only [Act.put, List.setIfInBounds_toArray, List.set_cons_zero, List.set_cons_succ]
        rfl
      refine pure_ (i := 11) (N := some 20) (v := ?_) (a' := ?_) #[true, true, true, true, true, true, true, true, true, true, true, true, false, false, false, false, false, false, false, false, false, false, false, false, false, false, false] rfl rfl (by kernel_rfl) (fun _ _ _ h => h) (Or.inl ⟨by rfl, ?_⟩) ?_ ?_
      rotate_left
      · intro w'
        go_simp
        first | with_reducible rfl | (simp [Instr.field, go_sem]; rfl)
      rotate_left
      · simp only [Act.put, List.setIfInBounds_toArray, List.set_cons_zero, List.set_cons_succ]
        rfl
      refine take_ (i := 12) (N := some 21) (v := ?_) (a' := ?_) #[true, true, true, true, true, true, true, true, true, true, true, true, true, false, false, false, false, false, false, false, false, false, false, false, false, false, false] rfl rfl (by kernel_rfl) (fun _ _ _ h => h) (Or.inl ⟨by rfl, ?_⟩) hHeld ?_ ?_
      rotate_left
      · rintro w' ⟨s0, s1, s2⟩
        go_simp
        first | with_reducible rfl | (simp [Instr.field, go_sem]; rfl)
      rotate_left
      · simp only [Act.put, List.setIfInBounds_toArray, List.set_cons_zero, List.set_cons_succ]
        rfl
      refine pure_ (i := 13) (N := some 22) (v := ?_) (a' := ?_) #[true, true, true, true, true, true, true, true, true, true, true, true, true, true, false, false, false, false, false, false, false, false, false, false, false, false, false] rfl rfl (by kernel_rfl) (fun _ _ _ h => h) (Or.inl ⟨by rfl, ?_⟩) ?_ ?_
      rotate_left
      · intro w'
        go_simp
        first | with_reducible rfl | (simp [Instr.field, go_sem]; rfl)
      rotate_left
      · simp only [Act.put, List.setIfInBounds_toArray, List.set_cons_zero, List.set_cons_succ]
        rfl
      refine pure_ (i := 14) (N := some 23) (v := ?_) (a' := ?_) #[true, true, true, true, true, true, true, true, true, true, true, true, true, true, true, false, false, false, false, false, false, false, false, false, false, false, false] rfl rfl (by kernel_rfl) (fun _ _ _ h => h) (Or.inl ⟨by rfl, ?_⟩) ?_ ?_
      rotate_left
      · intro w'
        go_simp
        first | with_reducible rfl | (simp [Instr.field, go_sem]; rfl)
      rotate_left
      · simp only [Act.put, List.setIfInBounds_toArray, List.set_cons_zero, List.set_cons_succ]
        rfl
      refine pure_ (i := 15) (N := some 24) (v := ?_) (a' := ?_) #[true, true, true, true, true, true, true, true, true, true, true, true, true, true, true, true, false, false, false, false, false, false, false, false, false, false, false] rfl rfl (by kernel_rfl) (fun _ _ _ h => h) (Or.inl ⟨by rfl, ?_⟩) ?_ ?_
      rotate_left
      · intro w'
        go_simp
        first | with_reducible rfl | (simp [Instr.field, go_sem]; rfl)
      rotate_left
      · simp only [Act.put, List.setIfInBounds_toArray, List.set_cons_zero, List.set_cons_succ]
        rfl
      refine pure_ (i := 16) (N := some 25) (v := ?_) (a' := ?_) #[true, true, true, true, true, true, true, true, true, true, true, true, true, true, true, true, true, false, false, false, false, false, false, false, false, false, false] rfl rfl (by kernel_rfl) (fun _ _ _ h => h) (Or.inl ⟨by rfl, ?_⟩) ?_ ?_
      rotate_left
      · intro w'
        go_simp
        first | with_reducible rfl | (simp [Instr.field, go_sem]; rfl)
      rotate_left
      · simp only [Act.put, List.setIfInBounds_toArray, List.set_cons_zero, List.set_cons_succ]
        rfl
      refine pure_ (i := 17) (N := some 26) (v := ?_) (a' := ?_) #[true, true, true, true, true, true, true, true, true, true, true, true, true, true, true, true, true, true, false, false, false, false, false, false, false, false, false] rfl rfl (by kernel_rfl) (fun _ _ _ h => h) (Or.inl ⟨by rfl, ?_⟩) ?_ ?_
      rotate_left
      · intro w'
        go_simp
        first | with_reducible rfl | (simp [Instr.field, go_sem]; rfl)
      rotate_left
      · simp only [Act.put, List.setIfInBounds_toArray, List.set_cons_zero, List.set_cons_succ]
        rfl
      refine take_ (i := 18) (N := some 27) (v := ?_) (a' := ?_) #[true, true, true, true, true, true, true, true, true, true, true, true, true, true, true, true, true, true, true, false, false, false, false, false, false, false, false] rfl rfl (by kernel_rfl) (fun _ _ _ h => h) (Or.inl ⟨by rfl, ?_⟩) hHeld ?_ ?_
      rotate_left
      · rintro w' ⟨s0, s1, s2⟩
        go_simp
        first | with_reducible rfl | (simp [Instr.field, go_sem]; rfl)
      rotate_left
      · simp only [Act.put, List.setIfInBounds_toArray, List.set_cons_zero, List.set_cons_succ]
        rfl
      refine pure_ (i := 19) (N := some 28) (v := ?_) (a' := ?_) #[true, true, true, true, true, true, true, true, true, true, true, true, true, true, true, true, true, true, true, true, false, false, false, false, false, false, false] rfl rfl (by kernel_rfl) (fun _ _ _ h => h) (Or.inl ⟨by rfl, ?_⟩) ?_ ?_
      rotate_left
      · intro w'
        go_simp
        first | with_reducible rfl | (simp [Instr.field, go_sem]; rfl)
      rotate_left
      · simp only [Act.put, List.setIfInBounds_toArray, List.set_cons_zero, List.set_cons_succ]
        rfl
      refine pure_ (i := 20) (N := some 29) (v := ?_) (a' := ?_) #[true, true, true, true, true, true, true, true, true, true, true, true, true, true, true, true, true, true, true, true, true, false, false, false, false, false, false] rfl rfl (by kernel_rfl) (fun _ _ _ h => h) (Or.inl ⟨by rfl, ?_⟩) ?_ ?_
      rotate_left
      · intro w'
        go_simp
        first | with_reducible rfl | (simp [Instr.field, go_sem]; rfl)
      rotate_left
      · simp only [Act.put, List.setIfInBounds_toArray, List.set_cons_zero, List.set_cons_succ]
        rfl
      refine pure_ (i := 21) (N := some 30) (v := ?_) (a' := ?_) #[true, true, true, true, true, true, true, true, true, true, true, true, true, true, true, true, true, true, true, true, true, true, false, false, false, false, false] rfl rfl (by kernel_rfl) (fun _ _ _ h => h) (Or.inl ⟨by rfl, ?_⟩) ?_ ?_
      rotate_left
      · intro w'
        go_simp
        first | with_reducible rfl | (simp [Instr.field, go_sem]; rfl)
      rotate_left
      · simp only [Act.put, List.setIfInBounds_toArray, List.set_cons_zero, List.set_cons_succ]
        rfl
      refine pure_ (i := 22) (N := some 31) (v := ?_) (a' := ?_) #[true, true, true, true, true, true, true, true, true, true, true, true, true, true, true, true, true, true, true, true, true, true, true, false, false, false, false] rfl rfl (by kernel_rfl) (fun _ _ _ h => h) (Or.inl ⟨by rfl, ?_⟩) ?_ ?_
      rotate_left
      · intro w'
        go_simp
        first | with_reducible rfl | (simp [Instr.field, go_sem]; rfl)
      rotate_left
      · simp only [Act.put, List.setIfInBounds_toArray, List.set_cons_zero, List.set_cons_succ]
        rfl
      refine take_ (i := 23) (N := some 32) (v := ?_) (a' := ?_) #[true, true, true, true, true, true, true, true, true, true, true, true, true, true, true, true, true, true, true, true, true, true, true, true, false, false, false] rfl rfl (by kernel_rfl) (fun _ _ _ h => h) (Or.inl ⟨by rfl, ?_⟩) hHeld ?_ ?_
      rotate_left
      · rintro w' ⟨s0, s1, s2⟩
        go_simp
        first | with_reducible rfl | (simp [Instr.field, go_sem]; rfl)
      rotate_left
      · simp only [Act.put, List.setIfInBounds_toArray, List.set_cons_zero, List.set_cons_succ]
        rfl
      refine one_ (i := 24) (N := some 33) #[true, true, true, true, true, true, true, true, true, true, true, true, true, true, true, true, true, true, true, true, true, true, true, true, true, false, false] rfl rfl (by kernel_rfl) (by decide) (fun K hK => ?_)
      refine event_step (w1 := wr.drew.alloc (.cells #[.int .u8 x] 5)) (v := .slice (some ⟨wr.heap.size, 0, none⟩) 1 1) (by rfl) (by first | (go_simp; done) | (go_simp; rfl)) ?_
      have hgl := Ring.V_lt HV.out
      have hgw : g < wr.heap.size := Nat.lt_of_lt_of_le hgl HB.out.size
      have hba := below_alloc (Below.refl wr.drew.heap.size wr.drew) (.cells #[.int .u8 x] 5)
      have k1 := (hba.cell (p := ⟨g, 64, none⟩) hgw).trans h1
      have k2 := (hba.cell (p := ⟨g, 65, none⟩) hgw).trans h2
      have k3 := (hba.cell (p := ⟨g, j.toNat, none⟩) hgw).trans h3
      refine hK.out _ _ ⟨k1, k2, k3⟩ (fun hHeld => ?_)
      clear hK K
      refine norm_ (a' := ?_) ?_ ?_
      rotate_left
      · show Act.put _ (some 33) _ = _
        simp only [Act.put, List.setIfInBounds_toArray, List.set_cons_zero, List.set_cons_succ]
        rfl
      refine one_ (i := 25) (N := some 34) #[true, true, true, true, true, true, true, true, true, true, true, true, true, true, true, true, true, true, true, true, true, true, true, true, true, true, false] rfl rfl (by kernel_rfl) (by decide) (fun K hK => ?_)
      refine Kd.R_append_step (Kd.int .u8) (w0 := w) (W := wr.drew) w.heap.size (by rfl) (.tmp 9) (.tmp 33) 22 5 (.int .u8 0) 1 rfl Try.underlying22 Ring.info rfl (by decide) (by omega) u2 (L.take i) x [.int .u8 x] (fun _ => True) (fun _ => False) rfl rfl rfl (fun _ hk => hk.elim) (fun _ _ => trivial) HO.out (below_drew1 HB.out) (below_size (below_drew1 HB.out)) (by rw [List.length_take]; omega) ?_
      intro v1 w2 ho hb hg hat
      refine hK.out _ _ ⟨(hb.cell (p := ⟨g, 64, none⟩) hgl).trans ((HB.out.cell (p := ⟨g, 64, none⟩) hgl).symm.trans h1), (hb.cell (p := ⟨g, 65, none⟩) hgl).trans ((HB.out.cell (p := ⟨g, 65, none⟩) hgl).symm.trans h2), (hb.cell (p := ⟨g, j.toNat, none⟩) hgl).trans ((HB.out.cell (p := ⟨g, j.toNat, none⟩) hgl).symm.trans h3)⟩ (fun hHeld => ?_)
      clear hK K
      refine norm_ (a' := ?_) ?_ ?_
      rotate_left
      · show Act.put _ (some 34) _ = _
        simp only [Act.put, List.setIfInBounds_toArray, List.set_cons_zero, List.set_cons_succ]
        rfl
      refine pure_ (i := 26) (N := some 2) (v := ?_) (a' := ?_) #[true, true, true, true, true, true, true, true, true, true, true, true, true, true, true, true, true, true, true, true, true, true, true, true, true, true, true] rfl rfl (by kernel_rfl) (fun _ _ _ h => h) (Or.inl ⟨by rfl, ?_⟩) ?_ ?_
      rotate_left
      · intro w'
        go_simp
        first | with_reducible rfl | (simp [Instr.field, go_sem]; rfl)
      rotate_left
      · simp only [Act.put, List.setIfInBounds_toArray, List.set_cons_zero, List.set_cons_succ]
        rfl
      refine done_ (by kernel_rfl) ?_
      go_wp2
      go_roundw
      case rel => exact ⟨i + 1, by omega, rfl, ⟨by rw [List.take_succ_eq_append_getElem (by omega)]; have e8 := hx.out; simp only [List.getD_eq_getElem?_getD, List.getElem?_eq_getElem (show i < L.length by omega), Option.getD_some] at e8; rw [← e8]; exact ho⟩, ⟨hb⟩⟩
      case measure => simp [intOf]; omega
    · go_wp2
      go_ret
      refine ⟨_, rfl, ?_, HB.out⟩
      have := HO.out
      rwa [List.take_of_length_le (by omega)] at this
set_option maxHeartbeats 4000000 in
theorem Ring.last_ok {w : World} {g : Nat} {room : Int} {L : List Int} (h : Ring.V w g room L) : Calls Try.prog 12 #[.pointer (some ⟨g, 0, none⟩)] w fun e w' => e = .returned (.tuple #[.int .u8 (L.getD 0 0), .bool (decide (0 < L.length))]) ∧ Below w.heap.size w w' := by
  have HV := Aside0.mk h
  clear h
  cases L with
  | nil =>
    go_enter Try.func12, Try.ntmps12
    go_wp2_with (first | (go_at_call 14; refine (Ring.len_ok HV.out).mono ?_; rintro e w1 ⟨rfl, hb⟩))
    go_ret2
    exact ⟨rfl, hb⟩
  | cons x L =>
    have e0 : (((x :: L).length : Int) == 0) = false := by simp; omega
    go_enter Try.func12, Try.ntmps12
    go_wp2_with (first
      | (go_at_call 14; refine (Ring.len_ok HV.out).mono ?_; rintro e w1 ⟨rfl, hb⟩; have HB := Aside0.mk hb; clear hb)
      | (go_at_call 8; refine (Ring.list_ok (Ring.V_below HV.out HB.out)).mono ?_; rintro e w2 ⟨v, rfl, ho, hb2⟩; have HB2 := Aside0.mk (below_step HB.out hb2); obtain ⟨go, co, eo, gb, gl, cl, HG⟩ := Kd.R_form ho (by simp); subst eo; have hx := (Kd.R_celln 0 ho 0 (by decide) (by simp)).1; replace hx : w2.cell? ⟨go, 0, none⟩ = some (.int .u8 x) := hx; have hl : 0 < (x :: L).length := (by simp); clear hb2 ho HG gb gl cl))
    go_ret2
    exact ⟨rfl, HB2.out⟩
theorem Ring.last_nil {w : World} : Calls Try.prog 12 #[.pointer none] w fun e w' => e = .returned (.tuple #[.int .u8 0, .bool false]) ∧ Below w.heap.size w w' := by
  go_enter Try.func12, Try.ntmps12
  go_wp2_with (first | (go_at_call 14; refine Ring.len_nil.mono ?_; rintro e w1 ⟨rfl, hb⟩))
  go_ret2
  exact ⟨rfl, hb⟩
theorem Ring.w64 {x : Int} (h : -9223372036854775808 ≤ x ∧ x ≤ 9223372036854775807) : wrap64 x = x := by unfold wrap64; omega
theorem Ring.rd_drop {l : List Int} {i : Int} (h0 : 0 ≤ i) (h1 : i < (l.length : Int)) : l.drop i.toNat = rd l i :: l.drop (i.toNat + 1) := by
  have h : i.toNat < l.length := by omega
  rw [List.drop_eq_getElem_cons h]
  simp [rd, List.getD, h]
theorem Ring.bytes_loop {a b : List Int} (hl : a.length = b.length) (hb : a.length ≤ 4611686018427387904) : ∀ (d k : Nat) (i : Int), 0 ≤ i → (a.length : Int) - i = d → d < k → bilgeref01_Bytes.l0 k a b i = some (decide (a.drop i.toNat = b.drop i.toNat)) := by
  intro d
  induction d with
  | zero =>
    intro k i h0 h1 hk
    obtain ⟨k, rfl⟩ : ∃ m, k = m + 1 := ⟨k - 1, by omega⟩
    simp only [bilgeref01_Bytes.l0]
    rw [if_neg (by omega), List.drop_eq_nil_of_le (by omega), List.drop_eq_nil_of_le (by omega)]
    simp
  | succ d ih =>
    intro k i h0 h1 hk
    obtain ⟨k, rfl⟩ : ∃ m, k = m + 1 := ⟨k - 1, by omega⟩
    simp only [bilgeref01_Bytes.l0]
    rw [if_pos (by omega), if_pos h0, if_pos (by omega), Ring.w64 (by omega), Ring.rd_drop h0 (by omega), Ring.rd_drop (l := b) h0 (by omega)]
    by_cases h : rd a i = rd b i
    · rw [if_pos h, ih k (i + 1) (by omega) (by omega) (by omega), h, show (i + 1).toNat = i.toNat + 1 by omega]
      congr 1
      simp
    · rw [if_neg h]
      simp [h]
theorem Ring.bytes_eq {a b : List Int} (hb : a.length ≤ 4611686018427387904) : bilgeref01_Bytes.f (a.length + 1) a b = some (decide (a = b)) := by
  unfold bilgeref01_Bytes.f
  by_cases h : (a.length : Int) = (b.length : Int)
  · rw [if_pos h, Ring.bytes_loop (by omega) hb a.length _ 0 (by omega) (by omega) (by omega)]
    simp
  · rw [if_neg h]
    have : a ≠ b := fun e => h (by rw [e])
    simp [this]
/-- Two rows of bytes, compared. -/
theorem Ring.bytes {w : World} {b1 b2 : Nat} {o1 o2 : Nat → Prop} {A B : Option Addr} {n m c d : Nat} {l l' : List Int} (h1 : Kd.R (Kd.int .u8) 5 w b1 o1 (.slice A n c) l) (h2 : Kd.R (Kd.int .u8) 5 w b2 o2 (.slice B m d) l') (hl : l.length ≤ 4611686018427387904) :
    Calls Try.prog 13 #[.slice A n c, .slice B m d] w fun e w' => e = .returned (.bool (decide (l = l'))) ∧ Below w.heap.size w w' := by
  obtain ⟨rfl, hc1, hr1⟩ := Kd.R_reads' h1
  obtain ⟨rfl, hc2, hr2⟩ := Kd.R_reads' h2
  refine (bilgeref01_Bytes.calls _ _ _ l _ _ l' _ w hr1 hc1 hr2 hc2 (Ring.bytes_eq hl)).mono ?_
  rintro e w' ⟨rfl, hd⟩
  exact ⟨rfl, hd.below⟩
set_option maxHeartbeats 8000000 in
theorem Ring.sure {w : World} : Calls Try.prog 5 #[] w fun e w' => e = .returned (.bool true) ∧ Below w.heap.size w w' := by
  have HB := Aside0.mk (Below.refl w.heap.size w)
  go_enter Try.func5, Try.ntmps5
  go_wp2_with (first
    | (go_at_call 6; refine (Ring.new_ok (by decide) (by decide)).mono ?_; rintro e w1 ⟨g, rfl, hgb, hV, hb⟩; have HV := Aside0.mk hV; have HG := Aside0.mk (Nat.le_trans (below_size HB.out) hgb); have HB2 := Aside0.mk (below_step HB.out hb); clear HB hV hgb hb; have HB := HB2; clear HB2)
    | (go_at_call 6; refine (Ring.new_no (by decide)).mono ?_; rintro e w1 ⟨rfl, hb⟩; have HV2 := Aside0.mk (Ring.V_below HV.out hb); have HB2 := Aside0.mk (below_step HB.out hb); clear HB hb HV; have HB := HB2; have HV := HV2; clear HB2 HV2)
    | (go_at_call 7; (with_reducible refine (Ring.put_ok HV.out _).mono ?_); rintro e w1 ⟨rfl, hV, hg⟩; have HV2 := Aside0.mk hV; have HB2 := Aside0.mk (HB.out.grown hg (below_size HB.out) (fun k hk => by cases hk; exact HG.out)); clear HB HV hV hg; have HB := HB2; have HV := HV2; clear HB2 HV2)
    | (go_at_call 7; (with_reducible refine (Ring.put_nil _).mono ?_); rintro e w1 ⟨rfl, hb⟩; have HV2 := Aside0.mk (Ring.V_below HV.out hb); have HB2 := Aside0.mk (below_step HB.out hb); clear HB hb HV; have HB := HB2; have HV := HV2; clear HB2 HV2)
    | (go_at_call 12; have HV3 : Aside0 (Ring.V _ g 2 [3, 2]) := ⟨HV.out⟩; clear HV; have HV := HV3; clear HV3; (with_reducible refine (Ring.last_ok HV.out).mono ?_); rintro e w1 ⟨rfl, hb⟩; have HV2 := Aside0.mk (Ring.V_below HV.out hb); have HB2 := Aside0.mk (below_step HB.out hb); clear HB hb HV; have HB := HB2; have HV := HV2; clear HB2 HV2)
    | (go_at_call 12; (with_reducible refine Ring.last_nil.mono ?_); rintro e w1 ⟨rfl, hb⟩; have HV2 := Aside0.mk (Ring.V_below HV.out hb); have HB2 := Aside0.mk (below_step HB.out hb); clear HB hb HV; have HB := HB2; have HV := HV2; clear HB2 HV2)
    | (go_at_call 14; (with_reducible refine (Ring.len_ok HV.out).mono ?_); rintro e w1 ⟨rfl, hb⟩; have HV2 := Aside0.mk (Ring.V_below HV.out hb); have HB2 := Aside0.mk (below_step HB.out hb); clear HB hb HV; have HB := HB2; have HV := HV2; clear HB2 HV2)
    | (go_at_call 14; (with_reducible refine Ring.len_nil.mono ?_); rintro e w1 ⟨rfl, hb⟩; have HV2 := Aside0.mk (Ring.V_below HV.out hb); have HB2 := Aside0.mk (below_step HB.out hb); clear HB hb HV; have HB := HB2; have HV := HV2; clear HB2 HV2)
    | (go_at_call 8; (with_reducible refine (Ring.list_ok HV.out).mono ?_); rintro e w1 ⟨v, rfl, ho, hb⟩; have HV2 := Aside0.mk (Ring.V_below HV.out hb); have HB2 := Aside0.mk (below_step HB.out hb); clear HB hb HV; have HB := HB2; have HV := HV2; clear HB2 HV2; obtain ⟨Av, cv, ev⟩ := Kd.R_slice ho; subst ev; replace ho : Kd.R (Kd.int .u8) 5 _ _ _ (.slice Av 2 cv) [3, 2] := ho; have HO := Aside0.mk ho; clear ho)
    | ((with_reducible refine gate_dst (N := 30) rfl ?_); refine Kd.R_lit (Kd.int .u8) _ 5 ?hg (N := 30) ?hd (xs := ([3, 2] : List Int)) (inner := [.int .u8 3, .int .u8 2]) (ok := fun _ => True) (okp := fun _ => True) ?hr ?hp (fun _ hk => hk) trivial (Below.refl _ _) (Nat.le_refl _) (by simp) ?_; (case hd => rfl); (case hg => rfl); (case hr => first | (go_simp; done) | (go_simp; rfl)); (case hp => exact (Reps.one (show Kd.M (Kd.int .u8) _ _ _ 3 [.int .u8 3] from rfl) (Reps.one (show Kd.M (Kd.int .u8) _ _ _ 2 [.int .u8 2] from rfl) (Reps.none _ _)))); intro v152 w16 ho17 hb hg_ hnew_; clear hg_ hnew_; have HV2 := Aside0.mk (Ring.V_below HV.out hb); have HO2 := Aside0.mk (Kd.R_below HO.out hb); have HB2 := Aside0.mk (below_step HB.out hb); clear HB hb HV HO; have HB := HB2; have HV := HV2; have HO := HO2; clear HB2 HV2 HO2; obtain ⟨Av2, cv2, ev2⟩ := Kd.R_slice ho17; subst ev2; replace ho17 : Kd.R (Kd.int .u8) 5 _ _ _ (.slice Av2 2 cv2) [3, 2] := ho17; have HO17 := Aside0.mk ho17; clear ho17)
    | (go_at_call 13; (with_reducible refine (Ring.bytes HO.out HO17.out (by decide)).mono ?_); rintro e w1 ⟨rfl, hb⟩; have HV2 := Aside0.mk (Ring.V_below HV.out hb); have HB2 := Aside0.mk (below_step HB.out hb); clear HB hb HV; have HB := HB2; have HV := HV2; clear HB2 HV2))
  go_ret
  exact ⟨rfl, HB.out⟩
def bilgelaw07_sure.f : Option Bool := some true
theorem bilgelaw07_sure.calls  (r : Bool) (w : World) (h : bilgelaw07_sure.f  = some r) :
    Calls Try.prog 5 #[] w fun e w' => e = .returned (.bool r) ∧ Below w.heap.size w w' := by
  obtain rfl := Option.some.inj h
  exact Ring.sure


end Go.Proofs.Ytnifmhmjhiofbaa.P
