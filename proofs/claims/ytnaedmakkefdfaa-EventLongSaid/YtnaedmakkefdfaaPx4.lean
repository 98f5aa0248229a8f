-- Written by the session's own turn of the kit's print program (wip/patch_print.py). Not trusted: Lean checks it.
import Derived.Test.YtnaedmakkefdfaaPx0
import Derived.Test.YtnaedmakkefdfaaPx1
import Derived.Test.YtnaedmakkefdfaaPx3
namespace Go.Proofs.Ytnaedmakkefdfaa.P
open Go.RowKit Go.Proofs.YtnaedmakkefdfaaW.PrintWords Go.Proofs.YtnaedmakkefdfaaW.PrintLast Go.Proofs.YtnaedmakkefdfaaW.PrintMore
attribute [local go_sem] max2_int min2_int max_two min_two max_three min_three max_four min_four   -- for this text's walks alone
set_option linter.unusedVariables false
set_option linter.unusedSimpArgs false

/-! ### bilgelaw19_sure: function 45 -/
/-- Which place in the row the k-th last thing has. -/
def Ring.idx (room next k : Int) : Int := if next - 1 - k < 0 then next - 1 - k + room else next - 1 - k
theorem Ring.idx_mod {room next k : Int} (h1 : 1 ≤ room) (h2 : 0 ≤ next) (h3 : next < room) (h4 : 0 ≤ k) (h5 : k < room) : (next - 1 - k + 2 * room) % room = Ring.idx room next k := by
  have e : next - 1 - k + 2 * room = (next - 1 - k + room) + room * 1 := by omega
  unfold Ring.idx
  split
  · rw [e, Int.add_mul_emod_self_left, Int.emod_eq_of_lt (by omega) (by omega)]
  · rw [show next - 1 - k + 2 * room = (next - 1 - k) + room * 2 by omega, Int.add_mul_emod_self_left, Int.emod_eq_of_lt (by omega) (by omega)]
/-- The log's cells. -/
def Ring.At (w : World) (g : Nat) (all : List Int) (room next many : Int) : Prop :=
  w.heap[g]? = some (.cells (all.map (Value.int .u8) ++ [Value.int .i64 room, Value.int .i64 next, Value.int .i64 many]).toArray 132 (0, 0)) ∧ all.length = 64
/-- What the cells say: the last things, the last one first. -/
def Ring.Ok (all : List Int) (room next : Int) (L : List Int) : Prop :=
  1 ≤ room ∧ room ≤ 64 ∧ 0 ≤ next ∧ next < room ∧ all.length = 64 ∧ (L.length : Int) ≤ room ∧ ∀ k : Nat, k < L.length → rd all (Ring.idx room next k) = L.getD k 0
/-- A log with room for so many, and what it holds. -/
def Ring.V (w : World) (g : Nat) (room : Int) (L : List Int) : Prop := ∃ all next, Ring.At w g all room next L.length ∧ Ring.Ok all room next L
theorem Ring.V_lt {w : World} {g : Nat} {room : Int} {L : List Int} (h : Ring.V w g room L) : g < w.heap.size := by
  obtain ⟨all, next, ⟨h, _⟩, _⟩ := h
  exact blk_lt h
theorem Ring.V_below {w w1 : World} {g : Nat} {room : Int} {L : List Int} (h : Ring.V w g room L) (hb : Below w.heap.size w w1) : Ring.V w1 g room L := by
  obtain ⟨all, next, ⟨h, h2⟩, h3⟩ := h
  exact ⟨all, next, ⟨blk_below h hb, h2⟩, h3⟩
theorem Ring.V_grown {w w1 : World} {g g' : Nat} {room : Int} {L : List Int} (h : Ring.V w g room L) (hb : w.grownBy w1 (some g')) (hne : g ≠ g') : Ring.V w1 g room L := by
  obtain ⟨all, next, ⟨h, h2⟩, h3⟩ := h
  exact ⟨all, next, ⟨blk_grown h hb (by simpa using hne), h2⟩, h3⟩
section
variable {w : World} {g : Nat} {all : List Int} {room next many : Int}
theorem Ring.At.cRoom (h : Ring.At w g all room next many) : w.cell? ⟨g, 64, none⟩ = some (.int .i64 room) := by
  rw [blk_cell h.1]; simp [List.getElem?_append, h.2]
theorem Ring.At.cNext (h : Ring.At w g all room next many) : w.cell? ⟨g, 65, none⟩ = some (.int .i64 next) := by
  rw [blk_cell h.1]; simp [List.getElem?_append, h.2]
theorem Ring.At.cMany (h : Ring.At w g all room next many) : w.cell? ⟨g, 66, none⟩ = some (.int .i64 many) := by
  rw [blk_cell h.1]; simp [List.getElem?_append, h.2]
theorem Ring.At.cAll (h : Ring.At w g all room next many) {i : Int} (h0 : 0 ≤ i) (h1 : i < 64) : w.cell? ⟨g, i.toNat, none⟩ = some (.int .u8 (rd all i)) := by
  have hi : i.toNat < all.length := by rw [h.2]; omega
  rw [blk_cell h.1]; simp [List.getElem?_append, hi, rd, List.getD]
theorem Ring.At.frozen (h : Ring.At w g all room next many) (i : Nat) : w.frozen? ⟨g, i, none⟩ = false := blk_frozen h.1 i
theorem Ring.At.put (h : Ring.At w g all room next many) {i : Int} (b : Int) (h0 : 0 ≤ i) (h1 : i < 64) : Ring.At (w.setCell ⟨g, i.toNat, none⟩ (.int .u8 b)) g (all.set i.toNat b) room next many := by
  have hi : i.toNat < all.length := by rw [h.2]; omega
  refine ⟨blk_put h.1 _ _ ?_, by simpa using h.2⟩
  rw [List.setIfInBounds_toArray, List.set_append_left _ _ (by simpa using hi), ← List.map_set]
theorem Ring.At.setNext (h : Ring.At w g all room next many) (x : Int) : Ring.At (w.setCell ⟨g, 65, none⟩ (.int .i64 x)) g all room x many := by
  refine ⟨blk_put h.1 _ _ ?_, h.2⟩
  rw [List.setIfInBounds_toArray, List.set_append_right _ _ (by simp [h.2])]
  simp [h.2]
theorem Ring.At.setMany (h : Ring.At w g all room next many) (x : Int) : Ring.At (w.setCell ⟨g, 66, none⟩ (.int .i64 x)) g all room next x := by
  refine ⟨blk_put h.1 _ _ ?_, h.2⟩
  rw [List.setIfInBounds_toArray, List.set_append_right _ _ (by simp [h.2])]
  simp [h.2]
end
theorem Ring.grown_set (w : World) (g i : Nat) (v : Value) : w.grownBy (w.setCell ⟨g, i, none⟩ v) (some g) := by
  obtain ⟨s1, s2, s3, s4⟩ := setCells_same g [v] i w
  exact ⟨s1, s2, s3, Nat.le_of_eq s4.symm, fun q _ hq => setCells_far [v] i q (fun he => hq (by rw [he]))⟩
set_option maxHeartbeats 1000000 in
set_option maxRecDepth 100000 in
theorem Ring.none_ok {w : World} {g : Nat} {room : Int} {L : List Int} (h : Ring.V w g room L) : Calls Try.prog 99 #[.pointer (some ⟨g, 0, none⟩)] w fun e w' => e = .returned (.bool false) ∧ Below w.heap.size w w' := by
  have hu := Try.underlying132
  obtain ⟨all, next, hA, hO⟩ := h
  have h1 := hA.cRoom
  have h2 : (room == 0) = false := by have := hO.1; simp; omega
  go_enter Try.func99, Try.ntmps99
  go_wp2
  go_ret
  exact ⟨rfl, Below.refl _ _⟩
set_option maxHeartbeats 1000000 in
set_option maxRecDepth 100000 in
theorem Ring.none_nil {w : World} : Calls Try.prog 99 #[.pointer none] w fun e w' => e = .returned (.bool true) ∧ Below w.heap.size w w' := by
  go_enter Try.func99, Try.ntmps99
  go_wp2
  go_ret
  exact ⟨rfl, Below.refl _ _⟩
set_option maxHeartbeats 1000000 in
set_option maxRecDepth 100000 in
theorem Ring.len_ok {w : World} {g : Nat} {room : Int} {L : List Int} (h : Ring.V w g room L) : Calls Try.prog 95 #[.pointer (some ⟨g, 0, none⟩)] w fun e w' => e = .returned (.int .i64 L.length) ∧ Below w.heap.size w w' := by
  have hu := Try.underlying132
  have HV := Aside0.mk h
  clear h
  go_enter Try.func95, Try.ntmps95
  go_wp2_with (first | (go_at_call 99; refine (Ring.none_ok HV.out).mono ?_; rintro e w1 ⟨rfl, hb⟩; obtain ⟨all, next, hA, hO⟩ := Ring.V_below HV.out hb; have h1 := hA.cMany))
  go_ret
  exact ⟨rfl, hb⟩
set_option maxHeartbeats 1000000 in
set_option maxRecDepth 100000 in
theorem Ring.len_nil {w : World} : Calls Try.prog 95 #[.pointer none] w fun e w' => e = .returned (.int .i64 0) ∧ Below w.heap.size w w' := by
  go_enter Try.func95, Try.ntmps95
  go_wp2_with (first | (go_at_call 99; refine Ring.none_nil.mono ?_; rintro e w1 ⟨rfl, hb⟩))
  go_ret
  exact ⟨rfl, hb⟩
theorem Ring.Ok.put {all : List Int} {room next : Int} {L : List Int} (h : Ring.Ok all room next L) (b : Int) : Ring.Ok (all.set next.toNat b) room (if next + 1 = room then 0 else next + 1) ((b :: L).take room.toNat) := by
  obtain ⟨h1, h2, h3, h4, h5, h6, h7⟩ := h
  refine ⟨h1, h2, by split <;> omega, by split <;> omega, by simpa using h5, by rw [List.length_take]; omega, ?_⟩
  intro k hk
  rw [List.length_take, List.length_cons] at hk
  have e0 : ∀ (i : Int), 0 ≤ i → i < 64 → rd (all.set next.toNat b) i = if i = next then b else rd all i := by
    intro i i0 i1
    simp only [rd, List.getD_eq_getElem?_getD, List.getElem?_set]
    by_cases hi : next.toNat = i.toNat
    · rw [if_pos hi, if_pos (by omega), if_pos (by omega)]; rfl
    · rw [if_neg hi, if_neg (by omega)]
  have hi0 : 0 ≤ Ring.idx room (if next + 1 = room then 0 else next + 1) k ∧ Ring.idx room (if next + 1 = room then 0 else next + 1) k < 64 := by
    unfold Ring.idx
    split <;> split <;> omega
  rw [e0 _ hi0.1 hi0.2]
  have hg : ((b :: L).take room.toNat).getD k 0 = (b :: L).getD k 0 := by
    simp only [List.getD_eq_getElem?_getD, List.getElem?_take]
    rw [if_pos (by omega)]
  rw [hg]
  cases k with
  | zero =>
    rw [if_pos (by unfold Ring.idx; split <;> split <;> omega)]
    rfl
  | succ k =>
    rw [if_neg (by unfold Ring.idx; split <;> split <;> omega), show Ring.idx room (if next + 1 = room then 0 else next + 1) ((k + 1 : Nat) : Int) = Ring.idx room next k by unfold Ring.idx; split <;> split <;> split <;> omega, h7 k (by omega)]
    rfl
set_option maxHeartbeats 4000000 in
set_option maxRecDepth 100000 in
theorem Ring.put_ok {w : World} {g : Nat} {room : Int} {L : List Int} (h : Ring.V w g room L) (b : Int) : Calls Try.prog 96 #[.pointer (some ⟨g, 0, none⟩), .int .u8 b] w fun e w' => e = .returned (.tuple #[]) ∧ Ring.V w' g room ((b :: L).take room.toNat) ∧ w.grownBy w' (some g) := by
  have hu := Try.underlying132
  have hu2 := Try.underlying130
  have HV := Aside0.mk h
  clear h
  go_enter Try.func96, Try.ntmps96
  go_wp2_with (first | (go_at_call 99; (refine (Ring.none_ok HV.out).mono ?_; rintro e w1 ⟨rfl, hb⟩; obtain ⟨all, next, hA, hO⟩ := Ring.V_below HV.out hb; have h1 := hA.cRoom; have h2 := hA.cNext; have h3 := hA.cMany; have h4 := hO.2.2.1; have h5 := hO.2.2.2.1; have h6 : next < 64 := (by have := hO.2.1; omega); have h7 := hA.frozen next.toNat; have h8 := hA.cAll h4 (by omega))))
  go_still_tail 9, (by kernel_rfl)
  change wpList _ _ _ _ _ w1.drew
  have hA2 : Ring.At w1.drew g all room next L.length := hA
  have hg2 : w.grownBy w1.drew (some g) := ⟨hb.os, hb.tape, hb.output, hb.size, fun k hk _ => hb.block k hk⟩
  clear h1 h2 h3 h7 h8 hA hb
  generalize w1.drew = w2 at hA2 hg2 ⊢
  have h7 := hA2.frozen next.toNat
  have h8 := hA2.cAll h4 (by omega)
  go_wp2
  have hA3 := hA2.put b h4 (by omega)
  have hg3 := hg2.trans (Ring.grown_set w2 g next.toNat (.int .u8 b))
  clear h7 h8 hA2 hg2
  generalize w2.setCell ⟨g, next.toNat, none⟩ (.int .u8 b) = w3 at hA3 hg3 ⊢
  have h1 := hA3.cRoom
  have h2 := hA3.cNext
  have h9 : room ≠ 0 := by omega
  have h10 : IntKind.i64.wrap (next + 1) = next + 1 := by rw [i64_w]; unfold wrap64; omega
  have h11 : Int.tmod (next + 1) room = if next + 1 = room then 0 else next + 1 := by
    rw [Int.tmod_eq_emod_of_nonneg (by omega)]
    split
    · rename_i e; rw [e]; exact Int.emod_self
    · exact Int.emod_eq_of_lt (by omega) (by omega)
  go_still_tail 13, (by kernel_rfl)
  change wpList _ _ _ _ _ w3.drew
  have hA4 : Ring.At w3.drew g (all.set next.toNat b) room next L.length := hA3
  have hg4 : w.grownBy w3.drew (some g) := hg3.trans ⟨rfl, rfl, rfl, Nat.le_refl _, fun _ _ _ => rfl⟩
  clear h1 h2 hA3 hg3 h11 h10
  generalize w3.drew = w4 at hA4 hg4 ⊢
  have h7 := hA4.frozen 65
  have h8 := hA4.cNext
  have hlen : (L.length : Int) ≤ room := hO.2.2.2.2.2.1
  have hr64 : room ≤ 64 := hO.2.1
  have hO2 := hO.put b
  clear hO
  generalize (if next + 1 = room then 0 else next + 1) = next' at hO2 ⊢
  go_wp2
  have hA5 := hA4.setNext next'
  have hg5 := hg4.trans (Ring.grown_set w4 g 65 (.int .i64 next'))
  clear h7 h8 hA4 hg4
  generalize w4.setCell ⟨g, 65, none⟩ (.int .i64 next') = w5 at hA5 hg5 ⊢
  have h1 := hA5.cRoom
  have h2 := hA5.cMany
  have h10 : IntKind.i64.wrap ((L.length : Int) + 1) = (L.length : Int) + 1 := by rw [i64_w]; unfold wrap64; omega
  have h11 : (if room < (L.length : Int) + 1 then room else (L.length : Int) + 1) = (((b :: L).take room.toNat).length : Int) := by
    rw [List.length_take, List.length_cons]
    split <;> omega
  go_still_tail 13, (by kernel_rfl)
  try rw [h11]
  change wpList _ _ _ _ _ w5.drew
  have hA6 : Ring.At w5.drew g (all.set next.toNat b) room next' L.length := hA5
  have hg6 : w.grownBy w5.drew (some g) := hg5.trans ⟨rfl, rfl, rfl, Nat.le_refl _, fun _ _ _ => rfl⟩
  clear h1 h2 hA5 hg5 h11 h10
  generalize w5.drew = w6 at hA6 hg6 ⊢
  have h7 := hA6.frozen 66
  have h8 := hA6.cMany
  go_wp2
  go_end0
  exact ⟨rfl, ⟨_, _, by rw [List.length_take, List.length_cons]; exact hA6.setMany _, hO2⟩, hg6.trans (Ring.grown_set w6 g 66 _)⟩
set_option maxHeartbeats 1000000 in
set_option maxRecDepth 100000 in
theorem Ring.put_nil {w : World} (b : Int) : Calls Try.prog 96 #[.pointer none, .int .u8 b] w fun e w' => e = .returned (.tuple #[]) ∧ Below w.heap.size w w' := by
  go_enter Try.func96, Try.ntmps96
  go_wp2_with (first | (go_at_call 99; refine Ring.none_nil.mono ?_; rintro e w1 ⟨rfl, hb⟩))
  refine bodyPost_ret (results_none rfl _ _ _) rfl ?_
  exact ⟨rfl, hb⟩
set_option maxHeartbeats 4000000 in
set_option maxRecDepth 100000 in
theorem Ring.clear_ok {w : World} {g : Nat} {room : Int} {L : List Int} (h : Ring.V w g room L) : Calls Try.prog 80 #[.pointer (some ⟨g, 0, none⟩)] w fun e w' => e = .returned (.tuple #[]) ∧ Ring.V w' g room [] ∧ w.grownBy w' (some g) := by
  have hu := Try.underlying132
  have HV := Aside0.mk h
  clear h
  go_enter Try.func80, Try.ntmps80
  go_wp2_with (first | (go_at_call 99; refine (Ring.none_ok HV.out).mono ?_; rintro e w1 ⟨rfl, hb⟩; obtain ⟨all, next, hA, hO⟩ := Ring.V_below HV.out hb; have h7 := hA.frozen 66; have h8 := hA.cMany))
  go_end0
  exact ⟨rfl, ⟨_, _, hA.setMany 0, hO.1, hO.2.1, hO.2.2.1, hO.2.2.2.1, hO.2.2.2.2.1, by have := hO.1; simp; omega, fun k hk => by simp at hk⟩, World.grownBy.trans ⟨hb.os, hb.tape, hb.output, hb.size, fun k hk _ => hb.block k hk⟩ (Ring.grown_set w1 g 66 _)⟩
set_option maxHeartbeats 4000000 in
set_option maxRecDepth 100000 in
theorem Ring.zero (w : World) : (zeroValue 132).run Try.prog w = .ok (.agg (List.replicate 64 (Value.int .u8 0) ++ [Value.int .i64 0, Value.int .i64 0, Value.int .i64 0]).toArray) w := by kernel_rfl
theorem Ring.zero_put (room : Int) : ((List.replicate 64 (Value.int .u8 0) ++ [Value.int .i64 0, Value.int .i64 0, Value.int .i64 0]).toArray).setIfInBounds 64 (.int .i64 room) = ((List.replicate 64 (0 : Int)).map (Value.int .u8) ++ [Value.int .i64 room, Value.int .i64 0, Value.int .i64 0]).toArray := by
  rw [List.setIfInBounds_toArray, List.set_append_right _ _ (by simp)]
  simp
set_option maxHeartbeats 4000000 in
set_option maxRecDepth 100000 in
theorem Ring.new_ok {w : World} {room : Int} (h1 : 1 ≤ room) (h2 : room ≤ 64) : Calls Try.prog 74 #[.int .i64 room] w fun e w' => ∃ g, e = .returned (.pointer (some ⟨g, 0, none⟩)) ∧ w.heap.size ≤ g ∧ Ring.V w' g room [] ∧ Below w.heap.size w w' := by
  have hu := Try.underlying132
  have h3 : ¬ room < 1 := by omega
  have hz := Ring.zero
  have hp := Ring.zero_put room
  generalize hZ : (List.replicate 64 (Value.int .u8 0) ++ [Value.int .i64 0, Value.int .i64 0, Value.int .i64 0]).toArray = Z at hz hp
  have hs : Z.size = 67 := by rw [← hZ]; simp
  clear hZ
  generalize hY : ((List.replicate 64 (0 : Int)).map (Value.int .u8) ++ [Value.int .i64 room, Value.int .i64 0, Value.int .i64 0]).toArray = Y at hp
  replace hY := Aside0.mk hY
  go_enter Try.func74, Try.ntmps74
  go_wp2
  go_ret
  refine ⟨_, rfl, Nat.le_refl _, ⟨List.replicate 64 0, 0, ⟨(blk_new w _).trans (by rw [← hY.out]; rfl), by simp⟩, h1, h2, Int.le_refl _, by omega, by simp, by simp; omega, fun k hk => by simp at hk⟩, below_alloc (Below.refl _ _) _⟩
set_option maxHeartbeats 4000000 in
set_option maxRecDepth 100000 in
theorem Ring.new_no {w : World} {room : Int} (h : room < 1 ∨ 64 < room) : Calls Try.prog 74 #[.int .i64 room] w fun e w' => e = .returned (.pointer none) ∧ Below w.heap.size w w' := by
  rcases h with h | h
  · go_enter Try.func74, Try.ntmps74
    go_wp2
    go_ret
    exact ⟨rfl, Below.refl _ _⟩
  · have h3 : ¬ room < 1 := by omega
    go_enter Try.func74, Try.ntmps74
    go_wp2
    go_ret
    exact ⟨rfl, Below.refl _ _⟩
theorem Ring.info : (Try.prog.info? 5).map (fun i => (i.zero, i.size, i.bytes)) = some (some (.int .u8 0), 1, 1) := by kernel_rfl
theorem Ring.size : (Try.prog.info? 132).map (·.size) = some 67 := by kernel_rfl
set_option maxHeartbeats 4000000 in
set_option maxRecDepth 100000 in
theorem Ring.clone_ok {w : World} {g : Nat} {room : Int} {L : List Int} (h : Ring.V w g room L) : Calls Try.prog 81 #[.pointer (some ⟨g, 0, none⟩)] w fun e w' => ∃ g', e = .returned (.pointer (some ⟨g', 0, none⟩)) ∧ w.heap.size ≤ g' ∧ Ring.V w' g' room L ∧ Below w.heap.size w w' := by
  have hu := Try.underlying132
  have HV := Aside0.mk h
  clear h
  have hz := Ring.zero
  generalize hZ : (List.replicate 64 (Value.int .u8 0) ++ [Value.int .i64 0, Value.int .i64 0, Value.int .i64 0]).toArray = Z at hz
  have hs : Z.size = 67 := by rw [← hZ]; simp
  clear hZ
  go_enter Try.func81, Try.ntmps81
  go_wp2_with (first
    | (go_at_call 99; refine (Ring.none_ok HV.out).mono ?_; rintro e w1 ⟨rfl, hb⟩; obtain ⟨all, next, hA, hO⟩ := Ring.V_below HV.out hb; have hA1 := hA.1; have hcs : ((all.map (Value.int .u8) ++ [Value.int .i64 room, Value.int .i64 next, Value.int .i64 (L.length : Int)]).toArray).size = 67 := (by simp [hA.2]); have hco : ((all.map (Value.int .u8) ++ [Value.int .i64 room, Value.int .i64 next, Value.int .i64 (L.length : Int)]).toArray).all (·.oneCell') = true := (by simp [Value.oneCell']); generalize hC : (all.map (Value.int .u8) ++ [Value.int .i64 room, Value.int .i64 next, Value.int .i64 (L.length : Int)]).toArray = C at hA1 hcs hco; replace hC := Aside0.mk hC)
    | (refine wpList_load_row rfl 132 _ rfl g rfl 132 C (0, 0) _ hA1 hu rfl (Ring.size.trans (by rw [hcs])) ?_)
    | (refine wpList_store_row rfl 132 _ _ rfl w1.heap.size C rfl rfl 132 Z (blk_new _ _) (Ring.size.trans (by rw [hcs])) (by rw [hs, hcs]) hco ?_))
  go_ret
  refine ⟨_, rfl, hb.size, ⟨all, next, ⟨(setRow_heap _ _ Z _ _ (0, 0) (blk_new w1 _)).trans (by rw [← hC.out]), hA.2⟩, hO⟩, ⟨hb.os, hb.tape, hb.output, by rw [setRow_size]; exact (below_alloc hb _).size, fun k hk => (setRow_other _ _ _ _ (by have := hb.size; omega)).trans ((below_alloc hb _).block k hk)⟩⟩
set_option maxHeartbeats 4000000 in
set_option maxRecDepth 100000 in
theorem Ring.list_ok {w : World} {g : Nat} {room : Int} {L : List Int} (h : Ring.V w g room L) : Calls Try.prog 76 #[.pointer (some ⟨g, 0, none⟩)] w fun e w' => ∃ v, e = .returned v ∧ Kd.R (Kd.int .u8) 5 w' w.heap.size (fun _ => True) v L ∧ Below w.heap.size w w' := by
  have hu := Try.underlying132
  have hu2 := Try.underlying130
  have HV := Aside0.mk h
  have hL : L.length ≤ 64 := by
    obtain ⟨_, _, _, hO⟩ := h
    have := hO.2.1
    have := hO.2.2.2.2.2.1
    omega
  clear h
  go_enter Try.func76, Try.ntmps76
  go_wp2_with (first | (go_at_call 95; refine (Ring.len_ok HV.out).mono ?_; rintro e w1 ⟨rfl, hb⟩; have HB := Aside0.mk hb; clear hb; have HO := Aside0.mk (Kd.R_nil (Kd.int .u8) 5 w1 w.heap.size (fun _ => True))))
  go_loopw [2, 3, 6, 7, 8, 9, 10, 11, 12, 13, 14, 15, 16, 17, 18, 19, 20, 21, 22, 23, 24, 25, 26, 27, 28, 29, 30, 31, 32, 33, 34, 35] (fun v2 v3 v6 v7 v8 v9 v10 v11 v12 v13 v14 v15 v16 v17 v18 v19 v20 v21 v22 v23 v24 v25 v26 v27 v28 v29 v30 v31 v32 v33 v34 v35 wr => ∃ i : Nat, i ≤ L.length ∧ v6 = .int .i64 i ∧ Aside0 (Kd.R (Kd.int .u8) 5 wr w.heap.size (fun _ => True) v2 (L.take i)) ∧ Aside0 (Below w.heap.size w wr)) (fun v2 v3 v6 _ _ _ _ _ _ _ _ _ _ _ _ _ _ _ _ _ _ _ _ _ _ _ _ _ _ _ _ _ _ => L.length - (intOf v6).toNat)
  case atStart => exact ⟨0, Nat.zero_le _, rfl, by simpa using HO, HB⟩
  case round =>
    clear HO HB
    obtain ⟨i, hi, rfl, HO, HB⟩ := hrel
    by_cases hlt : (i : Int) < L.length
    · obtain ⟨all, next, hA, hO⟩ := Ring.V_below HV.out HB.out
      have h1 := hA.cRoom
      have h2 := hA.cNext
      obtain ⟨o1, o2, o3, o4, o5, o6, o7⟩ := hO
      have e1 : IntKind.i64.wrap (next - 1) = next - 1 := by rw [i64_w]; unfold wrap64; omega
      have e2 : IntKind.i64.wrap (next - 1 - (i : Int)) = next - 1 - (i : Int) := by rw [i64_w]; unfold wrap64; omega
      have e3 : IntKind.i64.wrap (2 * room) = 2 * room := by rw [i64_w]; unfold wrap64; omega
      have e4 : IntKind.i64.wrap (next - 1 - (i : Int) + 2 * room) = next - 1 - (i : Int) + 2 * room := by rw [i64_w]; unfold wrap64; omega
      have e5 : Int.tmod (next - 1 - (i : Int) + 2 * room) room = Ring.idx room next i := by
        rw [Int.tmod_eq_emod_of_nonneg (by omega)]
        exact Ring.idx_mod o1 o3 o4 (by omega) (by omega)
      have e6 : room ≠ 0 := by omega
      have j0 : 0 ≤ Ring.idx room next i := by unfold Ring.idx; split <;> omega
      have j1 : Ring.idx room next i < 64 := by unfold Ring.idx; split <;> omega
      have h3 := hA.cAll j0 j1
      have hx := o7 i (by omega)
      generalize Ring.idx room next i = j at e5 j0 j1 h3 hx
      generalize rd all j = x at h3 hx
      replace hx := Aside0.mk hx
      have e7 : IntKind.i64.wrap ((i : Int) + 1) = (i : Int) + 1 := by rw [i64_w]; unfold wrap64; omega
      go_wp2
      refine start_ (n := 27) (S := fun w' => w'.cell? ⟨g, 64, none⟩ = some (.int .i64 room) ∧ w'.cell? ⟨g, 65, none⟩ = some (.int .i64 next) ∧ w'.cell? ⟨g, j.toNat, none⟩ = some (.int .u8 x)) (ds := []) #[false, false, false, false, false, false, false, false, false, false, false, false, false, false, false, false, false, false, false, false, false, false, false, false, false, false, false] (by kernel_rfl) rfl rfl ⟨h1, h2, h3⟩ (fun hHeld => ?_)
      refine pure_ (i := 0) (N := some 9) (v := ?_) (a' := ?_) #[true, false, false, false, false, false, false, false, false, false, false, false, false, false, false, false, false, false, false, false, false, false, false, false, false, false, false] rfl rfl (by kernel_rfl) (fun _ _ _ h => h) (Or.inl ⟨by rfl, ?_⟩) ?_ ?_
      rotate_left
      · intro w'
        go_simp
        first | with_reducible rfl | (simp [Instr.field, go_sem]; rfl)
      rotate_left
      · simp only [Act.put, List.setIfInBounds_toArray, List.set_cons_zero, List.set_cons_succ]
        rfl
      refine pure_ (i := 1) (N := some 10) (v := ?_) (a' := ?_) #[true, true, false, false, false, false, false, false, false, false, false, false, false, false, false, false, false, false, false, false, false, false, false, false, false, false, false] rfl rfl (by kernel_rfl) (fun _ _ _ h => h) (Or.inl ⟨by rfl, ?_⟩) ?_ ?_
      rotate_left
      · intro w'
        go_simp
        first | with_reducible rfl | (simp [Instr.field, go_sem]; rfl)
      rotate_left
      · simp only [Act.put, List.setIfInBounds_toArray, List.set_cons_zero, List.set_cons_succ]
        rfl
      refine pure_ (i := 2) (N := some 11) (v := ?_) (a' := ?_) #[true, true, true, false, false, false, false, false, false, false, false, false, false, false, false, false, false, false, false, false, false, false, false, false, false, false, false] rfl rfl (by kernel_rfl) (fun _ _ _ h => h) (Or.inl ⟨by rfl, ?_⟩) ?_ ?_
      rotate_left
      · intro w'
        go_simp
        first | with_reducible rfl | (simp [Instr.field, go_sem]; rfl)
      rotate_left
      · simp only [Act.put, List.setIfInBounds_toArray, List.set_cons_zero, List.set_cons_succ]
        rfl
      refine pure_ (i := 3) (N := some 12) (v := ?_) (a' := ?_) #[true, true, true, true, false, false, false, false, false, false, false, false, false, false, false, false, false, false, false, false, false, false, false, false, false, false, false] rfl rfl (by kernel_rfl) (fun _ _ _ h => h) (Or.inl ⟨by rfl, ?_⟩) ?_ ?_
      rotate_left
      · intro w'
        go_simp
        first | with_reducible rfl | (simp [Instr.field, go_sem]; rfl)
      rotate_left
      · simp only [Act.put, List.setIfInBounds_toArray, List.set_cons_zero, List.set_cons_succ]
        rfl
      refine pure_ (i := 4) (N := some 13) (v := ?_) (a' := ?_) #[true, true, true, true, true, false, false, false, false, false, false, false, false, false, false, false, false, false, false, false, false, false, false, false, false, false, false] rfl rfl (by kernel_rfl) (fun _ _ _ h => h) (Or.inl ⟨by rfl, ?_⟩) ?_ ?_
      rotate_left
      · intro w'
        go_simp
        first | with_reducible rfl | (simp [Instr.field, go_sem]; rfl)
      rotate_left
      · simp only [Act.put, List.setIfInBounds_toArray, List.set_cons_zero, List.set_cons_succ]
        rfl
      refine take_ (i := 5) (N := some 14) (v := ?_) (a' := ?_) #[true, true, true, true, true, true, false, false, false, false, false, false, false, false, false, false, false, false, false, false, false, false, false, false, false, false, false] rfl rfl (by kernel_rfl) (fun _ _ _ h => h) (Or.inl ⟨by rfl, ?_⟩) hHeld ?_ ?_
      rotate_left
      · rintro w' ⟨s0, s1, s2⟩
        go_simp
        first | with_reducible rfl | (simp [Instr.field, go_sem]; rfl)
      rotate_left
      · simp only [Act.put, List.setIfInBounds_toArray, List.set_cons_zero, List.set_cons_succ]
        rfl
      refine pure_ (i := 6) (N := some 15) (v := ?_) (a' := ?_) #[true, true, true, true, true, true, true, false, false, false, false, false, false, false, false, false, false, false, false, false, false, false, false, false, false, false, false] rfl rfl (by kernel_rfl) (fun _ _ _ h => h) (Or.inl ⟨by rfl, ?_⟩) ?_ ?_
      rotate_left
      · intro w'
        go_simp
        first | with_reducible rfl | (simp [Instr.field, go_sem]; rfl)
      rotate_left
      · simp only [Act.put, List.setIfInBounds_toArray, List.set_cons_zero, List.set_cons_succ]
        rfl
      refine pure_ (i := 7) (N := some 16) (v := ?_) (a' := ?_) #[true, true, true, true, true, true, true, true, false, false, false, false, false, false, false, false, false, false, false, false, false, false, false, false, false, false, false] rfl rfl (by kernel_rfl) (fun _ _ _ h => h) (Or.inl ⟨by rfl, ?_⟩) ?_ ?_
      rotate_left
      · intro w'
        go_simp
        first | with_reducible rfl | (simp [Instr.field, go_sem]; rfl)
      rotate_left
      · simp only [Act.put, List.setIfInBounds_toArray, List.set_cons_zero, List.set_cons_succ]
        rfl
      refine pure_ (i := 8) (N := some 17) (v := ?_) (a' := ?_) #[true, true, true, true, true, true, true, true, true, false, false, false, false, false, false, false, false, false, false, false, false, false, false, false, false, false, false] rfl rfl (by kernel_rfl) (fun _ _ _ h => h) (Or.inl ⟨by rfl, ?_⟩) ?_ ?_
      rotate_left
      · intro w'
        go_simp
        first | with_reducible rfl | (simp [Instr.field, go_sem]; rfl)
      rotate_left
      · simp only [Act.put, List.setIfInBounds_toArray, List.set_cons_zero, List.set_cons_succ]
        rfl
      refine pure_ (i := 9) (N := some 18) (v := ?_) (a' := ?_) #[true, true, true, true, true, true, true, true, true, true, false, false, false, false, false, false, false, false, false, false, false, false, false, false, false, false, false] rfl rfl (by kernel_rfl) (fun _ _ _ h => h) (Or.inl ⟨by rfl, ?_⟩) ?_ ?_
      rotate_left
      · intro w'
        go_simp
        first | with_reducible rfl | (simp [Instr.field, go_sem]; rfl)
      rotate_left
      · simp only [Act.put, List.setIfInBounds_toArray, List.set_cons_zero, List.set_cons_succ]
        rfl
      refine pure_ (i := 10) (N := some 19) (v := ?_) (a' := ?_) #[true, true, true, true, true, true, true, true, true, true, true, false, false, false, false, false, false, false, false, false, false, false, false, false, false, false, false] rfl rfl (by kernel_rfl) (fun _ _ _ h => h) (Or.inl ⟨by rfl, ?_⟩) ?_ ?_
      rotate_left
      · intro w'
        go_simp
        first | with_reducible rfl | (simp [Instr.field, go_sem]; rfl)
      rotate_left
      · simp only [Act.put, List.setIfInBounds_toArray, List.set_cons_zero, List.set_cons_succ]
        rfl
      refine pure_ (i := 11) (N := some 20) (v := ?_) (a' := ?_) #[true, true, true, true, true, true, true, true, true, true, true, true, false, false, false, false, false, false, false, false, false, false, false, false, false, false, false] rfl rfl (by kernel_rfl) (fun _ _ _ h => h) (Or.inl ⟨by rfl, ?_⟩) ?_ ?_
      rotate_left
      · intro w'
        go_simp
        first | with_reducible rfl | (simp [Instr.field, go_sem]; rfl)
      rotate_left
      · simp only [Act.put, List.setIfInBounds_toArray, List.set_cons_zero, List.set_cons_succ]
        rfl
      refine take_ (i := 12) (N := some 21) (v := ?_) (a' := ?_) #[true, true, true, true, true, true, true, true, true, true, true, true, true, false, false, false, false, false, false, false, false, false, false, false, false, false, false] rfl rfl (by kernel_rfl) (fun _ _ _ h => h) (Or.inl ⟨by rfl, ?_⟩) hHeld ?_ ?_
      rotate_left
      · rintro w' ⟨s0, s1, s2⟩
        go_simp
        first | with_reducible rfl | (simp [Instr.field, go_sem]; rfl)
      rotate_left
      · simp only [Act.put, List.setIfInBounds_toArray, List.set_cons_zero, List.set_cons_succ]
        rfl
      refine pure_ (i := 13) (N := some 22) (v := ?_) (a' := ?_) #[true, true, true, true, true, true, true, true, true, true, true, true, true, true, false, false, false, false, false, false, false, false, false, false, false, false, false] rfl rfl (by kernel_rfl) (fun _ _ _ h => h) (Or.inl ⟨by rfl, ?_⟩) ?_ ?_
      rotate_left
      · intro w'
        go_simp
        first | with_reducible rfl | (simp [Instr.field, go_sem]; rfl)
      rotate_left
      · simp only [Act.put, List.setIfInBounds_toArray, List.set_cons_zero, List.set_cons_succ]
        rfl
      refine pure_ (i := 14) (N := some 23) (v := ?_) (a' := ?_) #[true, true, true, true, true, true, true, true, true, true, true, true, true, true, true, false, false, false, false, false, false, false, false, false, false, false, false] rfl rfl (by kernel_rfl) (fun _ _ _ h => h) (Or.inl ⟨by rfl, ?_⟩) ?_ ?_
      rotate_left
      · intro w'
        go_simp
        first | with_reducible rfl | (simp [Instr.field, go_sem]; rfl)
      rotate_left
      · simp only [Act.put, List.setIfInBounds_toArray, List.set_cons_zero, List.set_cons_succ]
        rfl
      refine pure_ (i := 15) (N := some 24) (v := ?_) (a' := ?_) #[true, true, true, true, true, true, true, true, true, true, true, true, true, true, true, true, false, false, false, false, false, false, false, false, false, false, false] rfl rfl (by kernel_rfl) (fun _ _ _ h => h) (Or.inl ⟨by rfl, ?_⟩) ?_ ?_
      rotate_left
      · intro w'
        go_simp
        first | with_reducible rfl | (simp [Instr.field, go_sem]; rfl)
      rotate_left
      · simp only [Act.put, List.setIfInBounds_toArray, List.set_cons_zero, List.set_cons_succ]
        rfl
      refine pure_ (i := 16) (N := some 25) (v := ?_) (a' := ?_) #[true, true, true, true, true, true, true, true, true, true, true, true, true, true, true, true, true, false, false, false, false, false, false, false, false, false, false] rfl rfl (by kernel_rfl) (fun _ _ _ h => h) (Or.inl ⟨by rfl, ?_⟩) ?_ ?_
      rotate_left
      · intro w'
        go_simp
        first | with_reducible rfl | (simp [Instr.field, go_sem]; rfl)
      rotate_left
      · simp only [Act.put, List.setIfInBounds_toArray, List.set_cons_zero, List.set_cons_succ]
        rfl
      refine pure_ (i := 17) (N := some 26) (v := ?_) (a' := ?_) #[true, true, true, true, true, true, true, true, true, true, true, true, true, true, true, true, true, true, false, false, false, false, false, false, false, false, false] rfl rfl (by kernel_rfl) (fun _ _ _ h => h) (Or.inl ⟨by rfl, ?_⟩) ?_ ?_
      rotate_left
      · intro w'
        go_simp
        first | with_reducible rfl | (simp [Instr.field, go_sem]; rfl)
      rotate_left
      · simp only [Act.put, List.setIfInBounds_toArray, List.set_cons_zero, List.set_cons_succ]
        rfl
      refine take_ (i := 18) (N := some 27) (v := ?_) (a' := ?_) #[true, true, true, true, true, true, true, true, true, true, true, true, true, true, true, true, true, true, true, false, false, false, false, false, false, false, false] rfl rfl (by kernel_rfl) (fun _ _ _ h => h) (Or.inl ⟨by rfl, ?_⟩) hHeld ?_ ?_
      rotate_left
      · rintro w' ⟨s0, s1, s2⟩
        go_simp
        first | with_reducible rfl | (simp [Instr.field, go_sem]; rfl)
      rotate_left
      · simp only [Act.put, List.setIfInBounds_toArray, List.set_cons_zero, List.set_cons_succ]
        rfl
      refine pure_ (i := 19) (N := some 28) (v := ?_) (a' := ?_) #[true, true, true, true, true, true, true, true, true, true, true, true, true, true, true, true, true, true, true, true, false, false, false, false, false, false, false] rfl rfl (by kernel_rfl) (fun _ _ _ h => h) (Or.inl ⟨by rfl, ?_⟩) ?_ ?_
      rotate_left
      · intro w'
        go_simp
        first | with_reducible rfl | (simp [Instr.field, go_sem]; rfl)
      rotate_left
      · simp only [Act.put, List.setIfInBounds_toArray, List.set_cons_zero, List.set_cons_succ]
        rfl
      refine pure_ (i := 20) (N := some 29) (v := ?_) (a' := ?_) #[true, true, true, true, true, true, true, true, true, true, true, true, true, true, true, true, true, true, true, true, true, false, false, false, false, false, false] rfl rfl (by kernel_rfl) (fun _ _ _ h => h) (Or.inl ⟨by rfl, ?_⟩) ?_ ?_
      rotate_left
      · intro w'
        go_simp
        first | with_reducible rfl | (simp [Instr.field, go_sem]; rfl)
      rotate_left
      · simp only [Act.put, List.setIfInBounds_toArray, List.set_cons_zero, List.set_cons_succ]
        rfl
      refine pure_ (i := 21) (N := some 30) (v := ?_) (a' := ?_) #[true, true, true, true, true, true, true, true, true, true, true, true, true, true, true, true, true, true, true, true, true, true, false, false, false, false, false] rfl rfl (by kernel_rfl) (fun _ _ _ h => h) (Or.inl ⟨by rfl, ?_⟩) ?_ ?_
      rotate_left
      · intro w'
        go_simp
        first | with_reducible rfl | (simp [Instr.field, go_sem]; rfl)
      rotate_left
      · simp only [Act.put, List.setIfInBounds_toArray, List.set_cons_zero, List.set_cons_succ]
        rfl
      refine pure_ (i := 22) (N := some 31) (v := ?_) (a' := ?_) #[true, true, true, true, true, true, true, true, true, true, true, true, true, true, true, true, true, true, true, true, true, true, true, false, false, false, false] rfl rfl (by kernel_rfl) (fun _ _ _ h => h) (Or.inl ⟨by rfl, ?_⟩) ?_ ?_
      rotate_left
      · intro w'
        go_simp
        first | with_reducible rfl | (simp [Instr.field, go_sem]; rfl)
      rotate_left
      · simp only [Act.put, List.setIfInBounds_toArray, List.set_cons_zero, List.set_cons_succ]
        rfl
      refine take_ (i := 23) (N := some 32) (v := ?_) (a' := ?_) #[true, true, true, true, true, true, true, true, true, true, true, true, true, true, true, true, true, true, true, true, true, true, true, true, false, false, false] rfl rfl (by kernel_rfl) (fun _ _ _ h => h) (Or.inl ⟨by rfl, ?_⟩) hHeld ?_ ?_
      rotate_left
      · rintro w' ⟨s0, s1, s2⟩
        go_simp
        first | with_reducible rfl | (simp [Instr.field, go_sem]; rfl)
      rotate_left
      · simp only [Act.put, List.setIfInBounds_toArray, List.set_cons_zero, List.set_cons_succ]
        rfl
      refine one_ (i := 24) (N := some 33) #[true, true, true, true, true, true, true, true, true, true, true, true, true, true, true, true, true, true, true, true, true, true, true, true, true, false, false] rfl rfl (by kernel_rfl) (by decide) (fun K hK => ?_)
      refine event_step (w1 := wr.drew.alloc (.cells #[.int .u8 x] 5)) (v := .slice (some ⟨wr.heap.size, 0, none⟩) 1 1) (by rfl) (by first | (go_simp; done) | (go_simp; rfl)) ?_
      have hgl := Ring.V_lt HV.out
      have hgw : g < wr.heap.size := Nat.lt_of_lt_of_le hgl HB.out.size
      have hba := below_alloc (Below.refl wr.drew.heap.size wr.drew) (.cells #[.int .u8 x] 5)
      have k1 := (hba.cell (p := ⟨g, 64, none⟩) hgw).trans h1
      have k2 := (hba.cell (p := ⟨g, 65, none⟩) hgw).trans h2
      have k3 := (hba.cell (p := ⟨g, j.toNat, none⟩) hgw).trans h3
      refine hK.out _ _ ⟨k1, k2, k3⟩ (fun hHeld => ?_)
      clear hK K
      refine norm_ (a' := ?_) ?_ ?_
      rotate_left
      · show Act.put _ (some 33) _ = _
        simp only [Act.put, List.setIfInBounds_toArray, List.set_cons_zero, List.set_cons_succ]
        rfl
      refine one_ (i := 25) (N := some 34) #[true, true, true, true, true, true, true, true, true, true, true, true, true, true, true, true, true, true, true, true, true, true, true, true, true, true, false] rfl rfl (by kernel_rfl) (by decide) (fun K hK => ?_)
      refine Kd.R_append_step (Kd.int .u8) (w0 := w) (W := wr.drew) w.heap.size (by rfl) (.tmp 9) (.tmp 33) 23 5 (.int .u8 0) 1 rfl Try.underlying23 Ring.info rfl (by decide) (by omega) u2 (L.take i) x [.int .u8 x] (fun _ => True) (fun _ => False) rfl rfl rfl (fun _ hk => hk.elim) (fun _ _ => trivial) HO.out (below_drew1 HB.out) (below_size (below_drew1 HB.out)) (by rw [List.length_take]; omega) ?_
      intro v1 w2 ho hb hg hat
      refine hK.out _ _ ⟨(hb.cell (p := ⟨g, 64, none⟩) hgl).trans ((HB.out.cell (p := ⟨g, 64, none⟩) hgl).symm.trans h1), (hb.cell (p := ⟨g, 65, none⟩) hgl).trans ((HB.out.cell (p := ⟨g, 65, none⟩) hgl).symm.trans h2), (hb.cell (p := ⟨g, j.toNat, none⟩) hgl).trans ((HB.out.cell (p := ⟨g, j.toNat, none⟩) hgl).symm.trans h3)⟩ (fun hHeld => ?_)
      clear hK K
      refine norm_ (a' := ?_) ?_ ?_
      rotate_left
      · show Act.put _ (some 34) _ = _
        simp only [Act.put, List.setIfInBounds_toArray, List.set_cons_zero, List.set_cons_succ]
        rfl
      refine pure_ (i := 26) (N := some 2) (v := ?_) (a' := ?_) #[true, true, true, true, true, true, true, true, true, true, true, true, true, true, true, true, true, true, true, true, true, true, true, true, true, true, true] rfl rfl (by kernel_rfl) (fun _ _ _ h => h) (Or.inl ⟨by rfl, ?_⟩) ?_ ?_
      rotate_left
      · intro w'
        go_simp
        first | with_reducible rfl | (simp [Instr.field, go_sem]; rfl)
      rotate_left
      · simp only [Act.put, List.setIfInBounds_toArray, List.set_cons_zero, List.set_cons_succ]
        rfl
      refine done_ (by kernel_rfl) ?_
      go_wp2
      go_roundw
      case rel => exact ⟨i + 1, by omega, rfl, ⟨by rw [List.take_succ_eq_append_getElem (by omega)]; have e8 := hx.out; simp only [List.getD_eq_getElem?_getD, List.getElem?_eq_getElem (show i < L.length by omega), Option.getD_some] at e8; rw [← e8]; exact ho⟩, ⟨hb⟩⟩
      case measure => simp [intOf]; omega
    · go_wp2
      go_ret
      refine ⟨_, rfl, ?_, HB.out⟩
      have := HO.out
      rwa [List.take_of_length_le (by omega)] at this
theorem Ring.w64 {x : Int} (h : -9223372036854775808 ≤ x ∧ x ≤ 9223372036854775807) : wrap64 x = x := by unfold wrap64; omega
theorem Ring.rd_drop {l : List Int} {i : Int} (h0 : 0 ≤ i) (h1 : i < (l.length : Int)) : l.drop i.toNat = rd l i :: l.drop (i.toNat + 1) := by
  have h : i.toNat < l.length := by omega
  rw [List.drop_eq_getElem_cons h]
  simp [rd, List.getD, h]
theorem Ring.bytes_loop {a b : List Int} (hl : a.length = b.length) (hb : a.length ≤ 4611686018427387904) : ∀ (d k : Nat) (i : Int), 0 ≤ i → (a.length : Int) - i = d → d < k → bilgeref01_Bytes.l0 k a b i = some (decide (a.drop i.toNat = b.drop i.toNat)) := by
  intro d
  induction d with
  | zero =>
    intro k i h0 h1 hk
    obtain ⟨k, rfl⟩ : ∃ m, k = m + 1 := ⟨k - 1, by omega⟩
    simp only [bilgeref01_Bytes.l0]
    rw [if_neg (by omega), List.drop_eq_nil_of_le (by omega), List.drop_eq_nil_of_le (by omega)]
    simp
  | succ d ih =>
    intro k i h0 h1 hk
    obtain ⟨k, rfl⟩ : ∃ m, k = m + 1 := ⟨k - 1, by omega⟩
    simp only [bilgeref01_Bytes.l0]
    rw [if_pos (by omega), if_pos h0, if_pos (by omega), Ring.w64 (by omega), Ring.rd_drop h0 (by omega), Ring.rd_drop (l := b) h0 (by omega)]
    by_cases h : rd a i = rd b i
    · rw [if_pos h, ih k (i + 1) (by omega) (by omega) (by omega), h, show (i + 1).toNat = i.toNat + 1 by omega]
      congr 1
      simp
    · rw [if_neg h]
      simp [h]
theorem Ring.bytes_eq {a b : List Int} (hb : a.length ≤ 4611686018427387904) : bilgeref01_Bytes.f (a.length + 1) a b = some (decide (a = b)) := by
  unfold bilgeref01_Bytes.f
  by_cases h : (a.length : Int) = (b.length : Int)
  · rw [if_pos h, Ring.bytes_loop (by omega) hb a.length _ 0 (by omega) (by omega) (by omega)]
    simp
  · rw [if_neg h]
    have : a ≠ b := fun e => h (by rw [e])
    simp [this]
/-- Two rows of bytes, compared. -/
theorem Ring.bytes {w : World} {b1 b2 : Nat} {o1 o2 : Nat → Prop} {A B : Option Addr} {n m c d : Nat} {l l' : List Int} (h1 : Kd.R (Kd.int .u8) 5 w b1 o1 (.slice A n c) l) (h2 : Kd.R (Kd.int .u8) 5 w b2 o2 (.slice B m d) l') (hl : l.length ≤ 4611686018427387904) :
    Calls Try.prog 18 #[.slice A n c, .slice B m d] w fun e w' => e = .returned (.bool (decide (l = l'))) ∧ Below w.heap.size w w' := by
  obtain ⟨rfl, hc1, hr1⟩ := Kd.R_reads' h1
  obtain ⟨rfl, hc2, hr2⟩ := Kd.R_reads' h2
  refine (bilgeref01_Bytes.calls _ _ _ l _ _ l' _ w hr1 hc1 hr2 hc2 (Ring.bytes_eq hl)).mono ?_
  rintro e w' ⟨rfl, hd⟩
  exact ⟨rfl, hd.below⟩

def Ev.At (w : World) (e g : Nat) (c : Int) : Prop := w.heap[e]? = some (.cells #[.pointer (some ⟨g, 0, none⟩), .int .u16 c] 115 (0, 0))
/-- A server's events, and their count: its own block, that of its log. -/
def Ev.V (w : World) (b e g : Nat) (L : List Int) (c : Int) : Prop := b ≤ e ∧ b ≤ g ∧ e ≠ g ∧ Ev.At w e g c ∧ Ring.V w g 64 L
/-- What a call on it leaves as it was. -/
def Ev.K (e g : Nat) (w w' : World) : Prop := ∀ k, k < w.heap.size → k ≠ e → k ≠ g → w'.heap[k]? = w.heap[k]?
theorem Ev.K_of {w w' : World} {e g : Nat} (h : Below w.heap.size w w') : Ev.K e g w w' := fun k hk _ _ => h.block k hk
theorem Ev.K_grown {w w' : World} {e g : Nat} (h : w.grownBy w' (some g)) : Ev.K e g w w' := fun k hk _ hg => h.block k hk (by simpa using hg)
theorem Ev.K_grown' {w w' : World} {e g : Nat} (h : w.grownBy w' (some e)) : Ev.K e g w w' := fun k hk he _ => h.block k hk (by simpa using he)
theorem Ev.K_trans {w w1 w2 : World} {e g : Nat} (h : Ev.K e g w w1) (h2 : Ev.K e g w1 w2) (hs : w.heap.size ≤ w1.heap.size) : Ev.K e g w w2 := fun k hk he hg => (h2 k (by omega) he hg).trans (h k hk he hg)
theorem Ev.V_below {w w1 : World} {b e g : Nat} {L : List Int} {c : Int} (h : Ev.V w b e g L c) (hb : Below w.heap.size w w1) : Ev.V w1 b e g L c := ⟨h.1, h.2.1, h.2.2.1, blk_below h.2.2.2.1 hb, Ring.V_below h.2.2.2.2 hb⟩
theorem Ev.V_ring {w w1 : World} {b e g : Nat} {L L' : List Int} {c : Int} (h : Ev.V w b e g L c) (hV : Ring.V w1 g 64 L') (hg : w.grownBy w1 (some g)) : Ev.V w1 b e g L' c := ⟨h.1, h.2.1, h.2.2.1, blk_grown h.2.2.2.1 hg (by simpa using h.2.2.1), hV⟩
theorem Ev.V_keep {w w1 : World} {b e g e' g' : Nat} {L : List Int} {c : Int} (h : Ev.V w b e g L c) (hk : Ev.K e' g' w w1) (h1 : e ≠ e') (h2 : e ≠ g') (h3 : g ≠ e') (h4 : g ≠ g') : Ev.V w1 b e g L c := by
  obtain ⟨a1, a2, a3, a4, all, next, ⟨a5, a6⟩, a7⟩ := h
  exact ⟨a1, a2, a3, (hk e (blk_lt a4) h1 h2).trans a4, all, next, ⟨(hk g (blk_lt a5) h3 h4).trans a5, a6⟩, a7⟩
theorem Ev.V.ring {w : World} {b e g : Nat} {L : List Int} {c : Int} (h : Ev.V w b e g L c) : Ring.V w g 64 L := h.2.2.2.2
theorem Ev.V.ptr {w : World} {b e g : Nat} {L : List Int} {c : Int} (h : Ev.V w b e g L c) : w.cell? ⟨e, 0, none⟩ = some (.pointer (some ⟨g, 0, none⟩)) := (blk_cell h.2.2.2.1 0).trans rfl
theorem Ev.V.cnt {w : World} {b e g : Nat} {L : List Int} {c : Int} (h : Ev.V w b e g L c) : w.cell? ⟨e, 1, none⟩ = some (.int .u16 c) := (blk_cell h.2.2.2.1 1).trans rfl
theorem Ev.V.frz {w : World} {b e g : Nat} {L : List Int} {c : Int} (h : Ev.V w b e g L c) : w.frozen? ⟨e, 1, none⟩ = false := blk_frozen h.2.2.2.1 1
theorem Ev.V.len {w : World} {b e g : Nat} {L : List Int} {c : Int} (h : Ev.V w b e g L c) : L.length ≤ 64 := by
  obtain ⟨_, _, _, _, _, _, _, hO⟩ := h
  have := hO.2.2.2.2.2.1
  omega
theorem Ev.V.set {w : World} {b e g : Nat} {L : List Int} {c : Int} (h : Ev.V w b e g L c) (d : Int) : Ev.V (w.setCell ⟨e, 1, none⟩ (.int .u16 d)) b e g L d := by
  obtain ⟨a1, a2, a3, a4, all, next, ⟨a5, a6⟩, a7⟩ := h
  exact ⟨a1, a2, a3, blk_put a4 _ _ rfl, all, next, ⟨blk_far a5 (fun h => a3 h.symm) _, a6⟩, a7⟩
/-- A row of bytes is none of a log's blocks. -/
theorem Ev.R_keep {w w1 : World} {b e g base : Nat} {L : List Int} {c : Int} {v : Value} {M : List Int} (hV : Ev.V w b e g L c) (h : Kd.R (Kd.int .u8) 5 w base (fun _ => True) v M) (hk : Ev.K e g w w1) (hs : w.heap.size ≤ w1.heap.size) : Kd.R (Kd.int .u8) 5 w1 base (fun _ => True) v M := by
  obtain ⟨_, _, _, a4, _, _, ⟨a5, _⟩, _⟩ := hV
  have h2 := Kd.R_bound (Kd.R_types (Kd.R_types h a4 (by decide)) a5 (by decide))
  exact Kd.R_mono (Kd.R_move h2 (fun k hk2 => hk k hk2.2.2.1 hk2.1.1.2 hk2.1.2)) (fun _ _ => trivial)
set_option maxHeartbeats 1000000 in
set_option maxRecDepth 100000 in
theorem Ev.none_ok {w : World} {b e g : Nat} {L : List Int} {c : Int} (h : Ev.V w b e g L c) : Calls Try.prog 75 #[.pointer (some ⟨e, 0, none⟩)] w fun r w' => r = .returned (.bool false) ∧ Below w.heap.size w w' := by
  have hu := Try.underlying115
  have h1 := h.ptr
  go_enter Try.func75, Try.ntmps75
  go_wp2
  go_ret
  exact ⟨rfl, Below.refl _ _⟩
set_option maxHeartbeats 1000000 in
set_option maxRecDepth 100000 in
theorem Ev.none_nil {w : World} : Calls Try.prog 75 #[.pointer none] w fun r w' => r = .returned (.bool true) ∧ Below w.heap.size w w' := by
  go_enter Try.func75, Try.ntmps75
  go_wp2
  go_ret
  exact ⟨rfl, Below.refl _ _⟩
set_option maxHeartbeats 4000000 in
set_option maxRecDepth 100000 in
theorem Ev.put_ok {w : World} {b e g : Nat} {L : List Int} {c : Int} (h : Ev.V w b e g L c) {A : Option Addr} {n : Nat} {l : List Bool} {x : Int} {k : Nat} (hr : Kd.C Kd.bool w A l.length l) (hc : l.length ≤ n) (hf : bits_Flags.f k l = some x) :
    Calls Try.prog 77 #[.pointer (some ⟨e, 0, none⟩), .slice A l.length n] w fun r w' => r = .returned (.tuple #[]) ∧ Ev.V w' b e g ((x :: L).take 64) c ∧ Ev.K e g w w' ∧ Below b w w' := by
  have hu := Try.underlying115
  have HV0 := Aside0.mk h
  have HR := Aside0.mk hr
  have HF := Aside0.mk hf
  clear h hr hf
  go_enter Try.func77, Try.ntmps77
  go_wp2_with (first | (go_at_call 75; (with_reducible refine (Ev.none_ok HV0.out).mono ?_); rintro r w1 ⟨rfl, hb⟩; have HV := Aside0.mk (Ev.V_below HV0.out hb); have HB := Aside0.mk hb; clear hb; have h1 := HV.out.ptr))
  refine start_ (n := 7) (S := fun w' => w'.cell? ⟨e, 0, none⟩ = some (.pointer (some ⟨g, 0, none⟩))) (ds := []) #[false, false, false, false, false, false, false] (by kernel_rfl) rfl rfl h1 (fun hHeld => ?_)
  have HVd : Aside0 (Ev.V w1.drew b e g L c) := ⟨HV.out⟩
  have HBd : Aside0 (Below w.heap.size w w1.drew) := ⟨below_drew1 HB.out⟩
  clear HV HB h1
  generalize w1.drew = w1d at HVd HBd hHeld ⊢
  refine pure_ (i := 0) (N := some 7) (v := ?_) (a' := ?_) #[true, false, false, false, false, false, false] rfl rfl (by kernel_rfl) (fun _ _ _ h => h) (Or.inl ⟨by rfl, ?_⟩) ?_ ?_
  rotate_left
  · intro w'
    go_simp
    first | with_reducible rfl | (simp [Instr.field, go_sem]; rfl)
  rotate_left
  · simp only [Act.put, List.setIfInBounds_toArray, List.set_cons_zero, List.set_cons_succ]
    rfl
  refine pure_ (i := 1) (N := some 8) (v := ?_) (a' := ?_) #[true, true, false, false, false, false, false] rfl rfl (by kernel_rfl) (fun _ _ _ h => h) (Or.inl ⟨by rfl, ?_⟩) ?_ ?_
  rotate_left
  · intro w'
    go_simp
    first | with_reducible rfl | (simp [Instr.field, go_sem]; rfl)
  rotate_left
  · simp only [Act.put, List.setIfInBounds_toArray, List.set_cons_zero, List.set_cons_succ]
    rfl
  refine pure_ (i := 2) (N := some 9) (v := ?_) (a' := ?_) #[true, true, true, false, false, false, false] rfl rfl (by kernel_rfl) (fun _ _ _ h => h) (Or.inl ⟨by rfl, ?_⟩) ?_ ?_
  rotate_left
  · intro w'
    go_simp
    first | with_reducible rfl | (simp [Instr.field, go_sem]; rfl)
  rotate_left
  · simp only [Act.put, List.setIfInBounds_toArray, List.set_cons_zero, List.set_cons_succ]
    rfl
  refine take_ (i := 3) (N := some 10) (v := ?_) (a' := ?_) #[true, true, true, true, false, false, false] rfl rfl (by kernel_rfl) (fun _ _ _ h => h) (Or.inl ⟨by rfl, ?_⟩) hHeld ?_ ?_
  rotate_left
  · rintro w' s0
    go_simp
    first | with_reducible rfl | (simp [Instr.field, go_sem]; rfl)
  rotate_left
  · simp only [Act.put, List.setIfInBounds_toArray, List.set_cons_zero, List.set_cons_succ]
    rfl
  refine pure_ (i := 4) (N := some 11) (v := ?_) (a' := ?_) #[true, true, true, true, true, false, false] rfl rfl (by kernel_rfl) (fun _ _ _ h => h) (Or.inl ⟨by rfl, ?_⟩) ?_ ?_
  rotate_left
  · intro w'
    go_simp
    first | with_reducible rfl | (simp [Instr.field, go_sem]; rfl)
  rotate_left
  · simp only [Act.put, List.setIfInBounds_toArray, List.set_cons_zero, List.set_cons_succ]
    rfl
  refine one_ (i := 5) (N := some 12) #[true, true, true, true, true, true, false] rfl rfl (by kernel_rfl) (by decide) (fun K hK => ?_)
  refine goes_ Try.func27 (by kernel_rfl) rfl #[.slice A l.length n] (by rfl) rfl rfl (by (try simp only [List.map_toArray, List.map_cons, List.map_nil]); first | done | rfl) ?_
  refine (bits_Flags.calls k _ _ l x _ (Kd.C_below HR.out HBd.out) hc HF.out).mono ?_
  rintro r w2 ⟨rfl, hb2⟩
  refine ⟨_, rfl, ?_⟩
  have HV2 := Aside0.mk (Ev.V_below HVd.out hb2)
  have HB2 := Aside0.mk (below_step HBd.out hb2)
  refine hK.out _ _ HV2.out.ptr (fun hHeld => ?_)
  clear hK K
  refine norm_ (a' := ?_) ?_ ?_
  rotate_left
  · show Act.put _ (some 12) _ = _
    simp only [Act.put, List.setIfInBounds_toArray, List.set_cons_zero, List.set_cons_succ]
    rfl
  refine one_ (i := 6) (N := some 13) #[true, true, true, true, true, true, true] rfl rfl (by kernel_rfl) (by decide) (fun K hK => ?_)
  refine goes_ Try.func96 (by kernel_rfl) rfl #[.pointer (some ⟨g, 0, none⟩), .int .u8 x] (by rfl) rfl rfl (by (try simp only [List.map_toArray, List.map_cons, List.map_nil]); first | done | rfl) ?_
  refine (Ring.put_ok HV2.out.2.2.2.2 x).mono ?_
  rintro r w3 ⟨rfl, hV, hg⟩
  refine ⟨_, rfl, ?_⟩
  have HV3 := Aside0.mk (Ev.V_ring HV2.out hV hg)
  refine hK.out _ _ HV3.out.ptr (fun hHeld => ?_)
  clear hK K
  refine norm_ (a' := ?_) ?_ ?_
  rotate_left
  · show Act.put _ (some 13) _ = _
    simp only [Act.put, List.setIfInBounds_toArray, List.set_cons_zero, List.set_cons_succ]
    rfl
  refine done_ (by kernel_rfl) ?_
  go_wp2
  go_end0
  have q1 : w2.heap.size ≤ w3.heap.size := hg.size
  have q2 : Below b w w2 := (HB2.out).mono (Nat.le_trans HV0.out.2.1 (Nat.le_of_lt (Ring.V_lt HV0.out.2.2.2.2)))
  exact ⟨rfl, HV3.out, Ev.K_trans (Ev.K_of HB2.out) (Ev.K_grown hg) HB2.out.size, q2.grown hg (Nat.le_trans (Nat.le_trans HV0.out.2.1 (Nat.le_of_lt (Ring.V_lt HV0.out.2.2.2.2))) HB2.out.size) (fun k hk => by cases hk; exact HV0.out.2.1)⟩

def Ev.x4 (s o l a : Bool) : Int := 128 + (if s = true then 2 else 0) + (if o = true then 16 else 0) + (if l = true then 32 else 0) + (if a = true then 64 else 0)
def Ev.x3 (p q l : Bool) : Int := 64 + (if p = true then 1 else 0) + (if q = true then 2 else 0) + (if l = true then 32 else 0)
theorem Ev.heard_x : ∀ s o l a : Bool, bits_Flags.f 9 [false, s, false, false, o, l, a, true] = some (Ev.x4 s o l a) := by decide +kernel
theorem Ev.said_x : ∀ p q l : Bool, bits_Flags.f 9 [p, q, false, false, false, l, true] = some (Ev.x3 p q l) := by decide +kernel
theorem Ev.entered_x : bits_Flags.f 9 [false, false, true] = some 4 := by decide +kernel
theorem Ev.none_x : bits_Flags.f 9 [] = some 0 := by decide +kernel
set_option maxHeartbeats 4000000 in
set_option maxRecDepth 100000 in
theorem Ev.heard_ok {w : World} {b e g : Nat} {L : List Int} {c : Int} (h : Ev.V w b e g L c) (s o l a : Bool) : Calls Try.prog 48 #[.pointer (some ⟨e, 0, none⟩), .bool s, .bool o, .bool l, .bool a] w fun r w' => r = .returned (.tuple #[]) ∧ Ev.V w' b e g ((Ev.x4 s o l a :: L).take 64) c ∧ Ev.K e g w w' ∧ Below b w w' := by
  have HV0 := Aside0.mk h
  clear h
  go_enter Try.func48, Try.ntmps48
  go_wp2_with (first
    | ((with_reducible refine gate_dst (N := 15) rfl ?_); refine Kd.R_lit (Kd.bool) _ 4 ?hg (N := 15) ?hd (xs := ([false, s, false, false, o, l, a, true] : List Bool)) (inner := [.bool false, .bool s, .bool false, .bool false, .bool o, .bool l, .bool a, .bool true]) (ok := fun _ => True) (okp := fun _ => True) ?hr ?hp (fun _ hk => hk) trivial (Below.refl _ _) (Nat.le_refl _) (by simp) ?_; (case hd => rfl); (case hg => rfl); (case hr => first | (go_simp; done) | (go_simp; rfl)); (case hp => exact (Reps.one (show Kd.M (Kd.bool) _ _ _ false [.bool false] from rfl) (Reps.one (show Kd.M (Kd.bool) _ _ _ s [.bool s] from rfl) (Reps.one (show Kd.M (Kd.bool) _ _ _ false [.bool false] from rfl) (Reps.one (show Kd.M (Kd.bool) _ _ _ false [.bool false] from rfl) (Reps.one (show Kd.M (Kd.bool) _ _ _ o [.bool o] from rfl) (Reps.one (show Kd.M (Kd.bool) _ _ _ l [.bool l] from rfl) (Reps.one (show Kd.M (Kd.bool) _ _ _ a [.bool a] from rfl) (Reps.one (show Kd.M (Kd.bool) _ _ _ true [.bool true] from rfl) (Reps.none _ _)))))))))); intro vl w1 ho hb _ _; obtain ⟨Al, cl, el⟩ := Kd.R_slice ho; subst el; replace ho : Kd.R Kd.bool 4 _ _ _ (.slice Al 8 cl) [false, s, false, false, o, l, a, true] := ho; have HL := Aside0.mk ho; have HV := Aside0.mk (Ev.V_below HV0.out hb); have HB := Aside0.mk hb; clear ho hb)
    | (go_at_call 77; refine (Ev.put_ok HV.out (l := [false, s, false, false, o, l, a, true]) (Kd.R_reads' HL.out).2.2 (Kd.R_reads' HL.out).2.1 (Ev.heard_x s o l a)).mono ?_; rintro r w2 ⟨rfl, hV, hk, hb⟩))
  go_end0
  exact ⟨rfl, hV, Ev.K_trans (Ev.K_of HB.out) hk HB.out.size, (HB.out.mono (Nat.le_trans HV0.out.1 (Nat.le_of_lt (blk_lt HV0.out.2.2.2.1)))).trans hb⟩
set_option maxHeartbeats 4000000 in
set_option maxRecDepth 100000 in
theorem Ev.entered_ok {w : World} {b e g : Nat} {L : List Int} {c : Int} (h : Ev.V w b e g L c)  : Calls Try.prog 51 #[.pointer (some ⟨e, 0, none⟩)] w fun r w' => r = .returned (.tuple #[]) ∧ Ev.V w' b e g ((4 :: L).take 64) c ∧ Ev.K e g w w' ∧ Below b w w' := by
  have HV0 := Aside0.mk h
  clear h
  go_enter Try.func51, Try.ntmps51
  go_wp2_with (first
    | ((with_reducible refine gate_dst (N := 3) rfl ?_); refine Kd.R_lit (Kd.bool) _ 4 ?hg (N := 3) ?hd (xs := ([false, false, true] : List Bool)) (inner := [.bool false, .bool false, .bool true]) (ok := fun _ => True) (okp := fun _ => True) ?hr ?hp (fun _ hk => hk) trivial (Below.refl _ _) (Nat.le_refl _) (by simp) ?_; (case hd => rfl); (case hg => rfl); (case hr => first | (go_simp; done) | (go_simp; rfl)); (case hp => exact (Reps.one (show Kd.M (Kd.bool) _ _ _ false [.bool false] from rfl) (Reps.one (show Kd.M (Kd.bool) _ _ _ false [.bool false] from rfl) (Reps.one (show Kd.M (Kd.bool) _ _ _ true [.bool true] from rfl) (Reps.none _ _))))); intro vl w1 ho hb _ _; obtain ⟨Al, cl, el⟩ := Kd.R_slice ho; subst el; replace ho : Kd.R Kd.bool 4 _ _ _ (.slice Al 3 cl) [false, false, true] := ho; have HL := Aside0.mk ho; have HV := Aside0.mk (Ev.V_below HV0.out hb); have HB := Aside0.mk hb; clear ho hb)
    | (go_at_call 77; refine (Ev.put_ok HV.out (l := [false, false, true]) (Kd.R_reads' HL.out).2.2 (Kd.R_reads' HL.out).2.1 (Ev.entered_x)).mono ?_; rintro r w2 ⟨rfl, hV, hk, hb⟩))
  go_end0
  exact ⟨rfl, hV, Ev.K_trans (Ev.K_of HB.out) hk HB.out.size, (HB.out.mono (Nat.le_trans HV0.out.1 (Nat.le_of_lt (blk_lt HV0.out.2.2.2.1)))).trans hb⟩
set_option maxHeartbeats 8000000 in
set_option maxRecDepth 100000 in
theorem Ev.said_ok {w : World} {b e g : Nat} {L : List Int} {c : Int} (h : Ev.V w b e g L c) (code : Int) (l : Bool) : Calls Try.prog 49 #[.pointer (some ⟨e, 0, none⟩), .int .i64 code, .bool l] w fun r w' => r = .returned (.tuple #[]) ∧ Ev.V w' b e g ((Ev.x3 (decide (1 ≤ code ∧ code ≤ 3)) (decide (code = 4)) l :: L).take 64) c ∧ Ev.K e g w w' ∧ Below b w w' := by
  have HV0 := Aside0.mk h
  clear h
  by_cases c1 : 1 ≤ code
  · by_cases c2 : code ≤ 3
    · have d1 : decide (1 ≤ code ∧ code ≤ 3) = true := decide_eq_true ⟨c1, c2⟩
      have d2 : decide (code = 4) = false := decide_eq_false (by omega)
      rw [d1, d2]
      clear d1 d2
      have f1 : (code == 4) = false := by simp; omega
      have f2 : decide (code = 4) = false := by simp; omega
      have f3 : decide (1 ≤ code) = true := decide_eq_true c1
      have f4 : decide (code ≤ 3) = true := decide_eq_true c2
      go_enter Try.func49, Try.ntmps49
      go_wp2_with (first
        | ((with_reducible refine gate_dst (N := 16) rfl ?_); refine Kd.R_lit (Kd.bool) _ 4 ?hg (N := 16) ?hd (xs := ([true, false, false, false, false, l, true] : List Bool)) (inner := [.bool true, .bool false, .bool false, .bool false, .bool false, .bool l, .bool true]) (ok := fun _ => True) (okp := fun _ => True) ?hr ?hp (fun _ hk => hk) trivial (Below.refl _ _) (Nat.le_refl _) (by simp) ?_; (case hd => rfl); (case hg => rfl); (case hr => first | (go_simp; done) | (go_simp; rfl)); (case hp => exact (Reps.one (show Kd.M (Kd.bool) _ _ _ true [.bool true] from rfl) (Reps.one (show Kd.M (Kd.bool) _ _ _ false [.bool false] from rfl) (Reps.one (show Kd.M (Kd.bool) _ _ _ false [.bool false] from rfl) (Reps.one (show Kd.M (Kd.bool) _ _ _ false [.bool false] from rfl) (Reps.one (show Kd.M (Kd.bool) _ _ _ false [.bool false] from rfl) (Reps.one (show Kd.M (Kd.bool) _ _ _ l [.bool l] from rfl) (Reps.one (show Kd.M (Kd.bool) _ _ _ true [.bool true] from rfl) (Reps.none _ _))))))))); intro vl w1 ho hb _ _; obtain ⟨Al, cl, el⟩ := Kd.R_slice ho; subst el; replace ho : Kd.R Kd.bool 4 _ _ _ (.slice Al 7 cl) [true, false, false, false, false, l, true] := ho; have HL := Aside0.mk ho; have HV := Aside0.mk (Ev.V_below HV0.out hb); have HB := Aside0.mk hb; clear ho hb)
        | (go_at_call 77; refine (Ev.put_ok HV.out (l := [true, false, false, false, false, l, true]) (Kd.R_reads' HL.out).2.2 (Kd.R_reads' HL.out).2.1 (Ev.said_x true false l)).mono ?_; rintro r w2 ⟨rfl, hV, hk, hb⟩))
      go_end0
      exact ⟨rfl, hV, Ev.K_trans (Ev.K_of HB.out) hk HB.out.size, (HB.out.mono (Nat.le_trans HV0.out.1 (Nat.le_of_lt (blk_lt HV0.out.2.2.2.1)))).trans hb⟩
    · by_cases c3 : code = 4
      · have d1 : decide (1 ≤ code ∧ code ≤ 3) = false := decide_eq_false (by omega)
        have d2 : decide (code = 4) = true := decide_eq_true c3
        rw [d1, d2]
        clear d1 d2
        go_enter Try.func49, Try.ntmps49
        go_wp2_with (first
          | ((with_reducible refine gate_dst (N := 16) rfl ?_); refine Kd.R_lit (Kd.bool) _ 4 ?hg (N := 16) ?hd (xs := ([false, true, false, false, false, l, true] : List Bool)) (inner := [.bool false, .bool true, .bool false, .bool false, .bool false, .bool l, .bool true]) (ok := fun _ => True) (okp := fun _ => True) ?hr ?hp (fun _ hk => hk) trivial (Below.refl _ _) (Nat.le_refl _) (by simp) ?_; (case hd => rfl); (case hg => rfl); (case hr => first | (go_simp; done) | (go_simp; rfl)); (case hp => exact (Reps.one (show Kd.M (Kd.bool) _ _ _ false [.bool false] from rfl) (Reps.one (show Kd.M (Kd.bool) _ _ _ true [.bool true] from rfl) (Reps.one (show Kd.M (Kd.bool) _ _ _ false [.bool false] from rfl) (Reps.one (show Kd.M (Kd.bool) _ _ _ false [.bool false] from rfl) (Reps.one (show Kd.M (Kd.bool) _ _ _ false [.bool false] from rfl) (Reps.one (show Kd.M (Kd.bool) _ _ _ l [.bool l] from rfl) (Reps.one (show Kd.M (Kd.bool) _ _ _ true [.bool true] from rfl) (Reps.none _ _))))))))); intro vl w1 ho hb _ _; obtain ⟨Al, cl, el⟩ := Kd.R_slice ho; subst el; replace ho : Kd.R Kd.bool 4 _ _ _ (.slice Al 7 cl) [false, true, false, false, false, l, true] := ho; have HL := Aside0.mk ho; have HV := Aside0.mk (Ev.V_below HV0.out hb); have HB := Aside0.mk hb; clear ho hb)
          | (go_at_call 77; refine (Ev.put_ok HV.out (l := [false, true, false, false, false, l, true]) (Kd.R_reads' HL.out).2.2 (Kd.R_reads' HL.out).2.1 (Ev.said_x false true l)).mono ?_; rintro r w2 ⟨rfl, hV, hk, hb⟩))
        go_end0
        exact ⟨rfl, hV, Ev.K_trans (Ev.K_of HB.out) hk HB.out.size, (HB.out.mono (Nat.le_trans HV0.out.1 (Nat.le_of_lt (blk_lt HV0.out.2.2.2.1)))).trans hb⟩
      · have d1 : decide (1 ≤ code ∧ code ≤ 3) = false := decide_eq_false (by omega)
        have d2 : decide (code = 4) = false := decide_eq_false c3
        rw [d1, d2]
        clear d1 d2
        have f1 : (code == 4) = false := by simp; omega
        have f2 : decide (code = 4) = false := by simp; omega
        have f3 : decide (1 ≤ code) = true := decide_eq_true c1
        have f4 : decide (code ≤ 3) = false := decide_eq_false c2
        go_enter Try.func49, Try.ntmps49
        go_wp2_with (first
          | ((with_reducible refine gate_dst (N := 16) rfl ?_); refine Kd.R_lit (Kd.bool) _ 4 ?hg (N := 16) ?hd (xs := ([false, false, false, false, false, l, true] : List Bool)) (inner := [.bool false, .bool false, .bool false, .bool false, .bool false, .bool l, .bool true]) (ok := fun _ => True) (okp := fun _ => True) ?hr ?hp (fun _ hk => hk) trivial (Below.refl _ _) (Nat.le_refl _) (by simp) ?_; (case hd => rfl); (case hg => rfl); (case hr => first | (go_simp; done) | (go_simp; rfl)); (case hp => exact (Reps.one (show Kd.M (Kd.bool) _ _ _ false [.bool false] from rfl) (Reps.one (show Kd.M (Kd.bool) _ _ _ false [.bool false] from rfl) (Reps.one (show Kd.M (Kd.bool) _ _ _ false [.bool false] from rfl) (Reps.one (show Kd.M (Kd.bool) _ _ _ false [.bool false] from rfl) (Reps.one (show Kd.M (Kd.bool) _ _ _ false [.bool false] from rfl) (Reps.one (show Kd.M (Kd.bool) _ _ _ l [.bool l] from rfl) (Reps.one (show Kd.M (Kd.bool) _ _ _ true [.bool true] from rfl) (Reps.none _ _))))))))); intro vl w1 ho hb _ _; obtain ⟨Al, cl, el⟩ := Kd.R_slice ho; subst el; replace ho : Kd.R Kd.bool 4 _ _ _ (.slice Al 7 cl) [false, false, false, false, false, l, true] := ho; have HL := Aside0.mk ho; have HV := Aside0.mk (Ev.V_below HV0.out hb); have HB := Aside0.mk hb; clear ho hb)
          | (go_at_call 77; refine (Ev.put_ok HV.out (l := [false, false, false, false, false, l, true]) (Kd.R_reads' HL.out).2.2 (Kd.R_reads' HL.out).2.1 (Ev.said_x false false l)).mono ?_; rintro r w2 ⟨rfl, hV, hk, hb⟩))
        go_end0
        exact ⟨rfl, hV, Ev.K_trans (Ev.K_of HB.out) hk HB.out.size, (HB.out.mono (Nat.le_trans HV0.out.1 (Nat.le_of_lt (blk_lt HV0.out.2.2.2.1)))).trans hb⟩
  · have d1 : decide (1 ≤ code ∧ code ≤ 3) = false := decide_eq_false (by omega)
    have d2 : decide (code = 4) = false := decide_eq_false (by omega)
    rw [d1, d2]
    clear d1 d2
    have f1 : (code == 4) = false := by simp; omega
    have f2 : decide (code = 4) = false := by simp; omega
    have f3 : decide (1 ≤ code) = false := decide_eq_false c1
    go_enter Try.func49, Try.ntmps49
    go_wp2_with (first
      | ((with_reducible refine gate_dst (N := 16) rfl ?_); refine Kd.R_lit (Kd.bool) _ 4 ?hg (N := 16) ?hd (xs := ([false, false, false, false, false, l, true] : List Bool)) (inner := [.bool false, .bool false, .bool false, .bool false, .bool false, .bool l, .bool true]) (ok := fun _ => True) (okp := fun _ => True) ?hr ?hp (fun _ hk => hk) trivial (Below.refl _ _) (Nat.le_refl _) (by simp) ?_; (case hd => rfl); (case hg => rfl); (case hr => first | (go_simp; done) | (go_simp; rfl)); (case hp => exact (Reps.one (show Kd.M (Kd.bool) _ _ _ false [.bool false] from rfl) (Reps.one (show Kd.M (Kd.bool) _ _ _ false [.bool false] from rfl) (Reps.one (show Kd.M (Kd.bool) _ _ _ false [.bool false] from rfl) (Reps.one (show Kd.M (Kd.bool) _ _ _ false [.bool false] from rfl) (Reps.one (show Kd.M (Kd.bool) _ _ _ false [.bool false] from rfl) (Reps.one (show Kd.M (Kd.bool) _ _ _ l [.bool l] from rfl) (Reps.one (show Kd.M (Kd.bool) _ _ _ true [.bool true] from rfl) (Reps.none _ _))))))))); intro vl w1 ho hb _ _; obtain ⟨Al, cl, el⟩ := Kd.R_slice ho; subst el; replace ho : Kd.R Kd.bool 4 _ _ _ (.slice Al 7 cl) [false, false, false, false, false, l, true] := ho; have HL := Aside0.mk ho; have HV := Aside0.mk (Ev.V_below HV0.out hb); have HB := Aside0.mk hb; clear ho hb)
      | (go_at_call 77; refine (Ev.put_ok HV.out (l := [false, false, false, false, false, l, true]) (Kd.R_reads' HL.out).2.2 (Kd.R_reads' HL.out).2.1 (Ev.said_x false false l)).mono ?_; rintro r w2 ⟨rfl, hV, hk, hb⟩))
    go_end0
    exact ⟨rfl, hV, Ev.K_trans (Ev.K_of HB.out) hk HB.out.size, (HB.out.mono (Nat.le_trans HV0.out.1 (Nat.le_of_lt (blk_lt HV0.out.2.2.2.1)))).trans hb⟩
set_option maxHeartbeats 4000000 in
set_option maxRecDepth 100000 in
theorem Ev.done_ok {w : World} {b e g : Nat} {L : List Int} {c : Int} (h : Ev.V w b e g L c) : Calls Try.prog 50 #[.pointer (some ⟨e, 0, none⟩)] w fun r w' => r = .returned (.tuple #[]) ∧ Ev.V w' b e g L (IntKind.u16.wrap (c + 1)) ∧ Ev.K e g w w' ∧ Below b w w' := by
  have hu := Try.underlying115
  have HV0 := Aside0.mk h
  clear h
  go_enter Try.func50, Try.ntmps50
  go_wp2_with (first | (go_at_call 75; (with_reducible refine (Ev.none_ok HV0.out).mono ?_); rintro r w1 ⟨rfl, hb⟩; have HV := Aside0.mk (Ev.V_below HV0.out hb); have HB := Aside0.mk hb; clear hb; have h1 := HV.out.cnt; have h2 := HV.out.frz))
  go_end0
  exact ⟨rfl, HV.out.set _, Ev.K_trans (Ev.K_of HB.out) (Ev.K_grown' (Ring.grown_set w1 e 1 _)) HB.out.size, (HB.out.mono (Nat.le_trans HV0.out.1 (Nat.le_of_lt (blk_lt HV0.out.2.2.2.1)))).grown (Ring.grown_set w1 e 1 _) (Nat.le_trans (Nat.le_trans HV0.out.1 (Nat.le_of_lt (blk_lt HV0.out.2.2.2.1))) HB.out.size) (fun k hk => by cases hk; exact HV0.out.1)⟩
set_option maxHeartbeats 4000000 in
set_option maxRecDepth 100000 in
theorem Ev.done_nil {w : World} : Calls Try.prog 50 #[.pointer none] w fun r w' => r = .returned (.tuple #[]) ∧ Below w.heap.size w w' := by
  go_enter Try.func50, Try.ntmps50
  go_wp2_with (first | (go_at_call 75; (with_reducible refine Ev.none_nil.mono ?_); rintro r w1 ⟨rfl, hb⟩))
  go_end0
  exact ⟨rfl, hb⟩
set_option maxHeartbeats 4000000 in
set_option maxRecDepth 100000 in
theorem Ev.count_ok {w : World} {b e g : Nat} {L : List Int} {c : Int} (h : Ev.V w b e g L c) : Calls Try.prog 55 #[.pointer (some ⟨e, 0, none⟩)] w fun r w' => r = .returned (.int .u16 c) ∧ Below w.heap.size w w' := by
  have hu := Try.underlying115
  have HV0 := Aside0.mk h
  clear h
  go_enter Try.func55, Try.ntmps55
  go_wp2_with (first | (go_at_call 75; (with_reducible refine (Ev.none_ok HV0.out).mono ?_); rintro r w1 ⟨rfl, hb⟩; have HV := Aside0.mk (Ev.V_below HV0.out hb); have HB := Aside0.mk hb; clear hb; have h1 := HV.out.cnt))
  go_ret
  exact ⟨rfl, HB.out⟩
set_option maxHeartbeats 4000000 in
set_option maxRecDepth 100000 in
theorem Ev.count_nil {w : World} : Calls Try.prog 55 #[.pointer none] w fun r w' => r = .returned (.int .u16 0) ∧ Below w.heap.size w w' := by
  go_enter Try.func55, Try.ntmps55
  go_wp2_with (first | (go_at_call 75; (with_reducible refine Ev.none_nil.mono ?_); rintro r w1 ⟨rfl, hb⟩))
  go_ret
  exact ⟨rfl, hb⟩
set_option maxHeartbeats 4000000 in
set_option maxRecDepth 100000 in
theorem Ev.list_ok {w : World} {b e g : Nat} {L : List Int} {c : Int} (h : Ev.V w b e g L c) : Calls Try.prog 47 #[.pointer (some ⟨e, 0, none⟩)] w fun r w' => ∃ v, r = .returned v ∧ Kd.R (Kd.int .u8) 5 w' w.heap.size (fun _ => True) v L ∧ Below w.heap.size w w' := by
  have hu := Try.underlying115
  have HV0 := Aside0.mk h
  clear h
  go_enter Try.func47, Try.ntmps47
  go_wp2_with (first
    | (go_at_call 75; (with_reducible refine (Ev.none_ok HV0.out).mono ?_); rintro r w1 ⟨rfl, hb⟩; have HV := Aside0.mk (Ev.V_below HV0.out hb); have HB := Aside0.mk hb; clear hb; have h1 := HV.out.ptr)
    | (go_at_call 76; (with_reducible refine (Ring.list_ok HV.out.ring).mono ?_); rintro r w2 ⟨v, rfl, ho, hb⟩))
  go_ret
  exact ⟨_, rfl, Kd.R_lower ho HB.out.size, below_step HB.out hb⟩
set_option maxHeartbeats 4000000 in
set_option maxRecDepth 100000 in
theorem Ev.list_nil {w : World} : Calls Try.prog 47 #[.pointer none] w fun r w' => r = .returned (.slice none 0 0) ∧ Below w.heap.size w w' := by
  go_enter Try.func47, Try.ntmps47
  go_wp2_with (first | (go_at_call 75; (with_reducible refine Ev.none_nil.mono ?_); rintro r w1 ⟨rfl, hb⟩))
  go_ret
  exact ⟨rfl, hb⟩
theorem Ev.put2 (c : Int) : word_Put.f [0, c] = some ([0, c].flatMap word_Put.bs) := by unfold word_Put.f; rw [if_pos (by simp)]
theorem Ev.put1 (c : Int) : word_Put.f [c] = some (word_Put.bs c) := by unfold word_Put.f; rw [if_pos (by simp)]; simp
def Ev.short (c : Int) : List Int := word_Put.bs 0 ++ word_Put.bs c
theorem Ev.short_len (c : Int) : (Ev.short c).length = 4 := by simp [Ev.short, word_Put.bs]
set_option maxHeartbeats 4000000 in
set_option maxRecDepth 100000 in
theorem Ev.short_ok {w : World} {b e g : Nat} {L : List Int} {c : Int} (h : Ev.V w b e g L c) : Calls Try.prog 53 #[.pointer (some ⟨e, 0, none⟩)] w fun r w' => ∃ v, r = .returned v ∧ Kd.R (Kd.int .u8) 5 w' w.heap.size (fun _ => True) v (Ev.short c) ∧ Below w.heap.size w w' := by
  have hu := Try.underlying115
  have HV0 := Aside0.mk h
  clear h
  go_enter Try.func53, Try.ntmps53
  go_wp2_with (first
    | (go_at_call 75; (with_reducible refine (Ev.none_ok HV0.out).mono ?_); rintro r w1 ⟨rfl, hb⟩; have HV := Aside0.mk (Ev.V_below HV0.out hb); have HB := Aside0.mk hb; clear hb; have h1 := HV.out.cnt)
    | ((with_reducible refine gate_dst (N := 9) rfl ?_); refine Kd.R_lit (Kd.int .u16) _ 55 ?hg (N := 9) ?hd (xs := ([0, c] : List Int)) (inner := [.int .u16 0, .int .u16 c]) (ok := fun _ => True) (okp := fun _ => True) ?hr ?hp (fun _ hk => hk) trivial (Below.refl _ _) (Nat.le_refl _) (by simp) ?_; (case hd => rfl); (case hg => rfl); (case hr => first | (go_simp; done) | (go_simp; rfl)); (case hp => exact (Reps.one (show Kd.M (Kd.int .u16) _ _ _ 0 [.int .u16 0] from rfl) (Reps.one (show Kd.M (Kd.int .u16) _ _ _ c [.int .u16 c] from rfl) (Reps.none _ _)))); intro vl w2 ho hb _ _; obtain ⟨Al, cl, el⟩ := Kd.R_slice ho; subst el; replace ho : Kd.R (Kd.int .u16) 55 _ _ _ (.slice Al 2 cl) [0, c] := ho; have HL := Aside0.mk ho; have HB2 := Aside0.mk (below_step HB.out hb); clear HB hb ho; have HB := HB2; clear HB2)
    | (go_at_call 78; refine (word_Put.calls _ _ [0, c] _ _ (Kd.R_reads' HL.out).2.2 (Kd.R_reads' HL.out).2.1 (Ev.put2 c)).mono ?_; rintro r w3 ⟨v, rfl, ho, hb⟩))
  go_ret
  refine ⟨_, rfl, ?_, below_step HB.out hb⟩
  have e : [0, c].flatMap word_Put.bs = Ev.short c := by simp [Ev.short]
  rw [e] at ho
  exact Kd.R_lower ho (below_size HB.out)
set_option maxHeartbeats 4000000 in
set_option maxRecDepth 100000 in
theorem Ev.new_ok {w : World} : Calls Try.prog 46 #[] w fun r w' => ∃ e g, r = .returned (.pointer (some ⟨e, 0, none⟩)) ∧ Ev.V w' w.heap.size e g [] 0 ∧ Below w.heap.size w w' := by
  have hu := Try.underlying115
  go_enter Try.func46, Try.ntmps46
  go_wp2_with (first | (go_at_call 74; refine (Ring.new_ok (by decide) (by decide)).mono ?_; rintro r w1 ⟨g, rfl, hg, hV, hb⟩; have hlt := Ring.V_lt hV))
  go_ret
  have hal := below_alloc (Below.refl w1.heap.size w1) (.cells #[.pointer (some ⟨g, 0, none⟩), .int .u16 0] 115 (0, 0))
  exact ⟨_, g, rfl, ⟨hb.size, hg, Nat.ne_of_gt hlt, blk_new w1 _, Ring.V_below hV hal⟩, below_step hb hal⟩
set_option maxHeartbeats 4000000 in
set_option maxRecDepth 100000 in
theorem Ev.restarted_ok {w : World} {b e g : Nat} {L : List Int} {c : Int} (h : Ev.V w b e g L c) (wipe : Bool) : Calls Try.prog 59 #[.pointer (some ⟨e, 0, none⟩), .bool wipe] w fun r w' => r = .returned (.tuple #[]) ∧ Ev.V w' b e g ((0 :: (if wipe = true then [] else L)).take 64) 0 ∧ Ev.K e g w w' ∧ Below b w w' := by
  have hu := Try.underlying115
  have HV0 := Aside0.mk h
  clear h
  have hlow := (Nat.le_trans HV0.out.1 (Nat.le_of_lt (blk_lt HV0.out.2.2.2.1)))
  cases wipe with
  | true =>
    go_enter Try.func59, Try.ntmps59
    go_wp2_with (first
      | (go_at_call 75; (with_reducible refine (Ev.none_ok HV0.out).mono ?_); rintro r w1 ⟨rfl, hb⟩; have HV := Aside0.mk (Ev.V_below HV0.out hb); have HB := Aside0.mk hb; clear hb; have h1 := HV.out.ptr; have HK := Aside0.mk (Ev.K_of (e := e) (g := g) HB.out))
      | (go_at_call 80; (with_reducible refine (Ring.clear_ok HV.out.ring).mono ?_); rintro r w2 ⟨rfl, hV, hg⟩; have HV2 := Aside0.mk (Ev.V_ring HV.out hV hg); have HK2 := Aside0.mk (Ev.K_trans HK.out (Ev.K_grown hg) HB.out.size); have HB2 := Aside0.mk ((HB.out.mono hlow).grown hg (Nat.le_trans hlow HB.out.size) (fun k hk => by cases hk; exact HV0.out.2.1)); have h2 := HV2.out.cnt; have h3 := HV2.out.frz; clear hV hg HB HK)
      | (go_at_call 77; (have hz := Ring.grown_set w2 e 1 (.int .u16 0)); (have HV3 := Aside0.mk (HV2.out.set 0)); (have HB3 := Aside0.mk (HB2.out.grown hz (Nat.le_trans hlow HB2.out.size) (fun k hk => by cases hk; exact HV0.out.1))); (have HK3 := Aside0.mk (Ev.K_trans HK2.out (Ev.K_grown' hz) HB2.out.size)); refine (Ev.put_ok HV3.out (l := []) (Kd.R_reads' (Kd.R_nil Kd.bool 4 _ 0 (fun _ => True))).2.2 (Nat.le_refl _) Ev.none_x).mono ?_; rintro r w4 ⟨rfl, hV, hk, hb⟩))
    go_end0
    exact ⟨rfl, hV, Ev.K_trans HK3.out hk HB3.out.size, HB3.out.trans hb⟩
  | false =>
    go_enter Try.func59, Try.ntmps59
    go_wp2_with (first
      | (go_at_call 75; (with_reducible refine (Ev.none_ok HV0.out).mono ?_); rintro r w1 ⟨rfl, hb⟩; have HV := Aside0.mk (Ev.V_below HV0.out hb); have HB := Aside0.mk hb; clear hb; have h2 := HV.out.cnt; have h3 := HV.out.frz; have HK := Aside0.mk (Ev.K_of (e := e) (g := g) HB.out))
      | (go_at_call 77; (have hz := Ring.grown_set w1 e 1 (.int .u16 0)); (have HV3 := Aside0.mk (HV.out.set 0)); (have HB3 := Aside0.mk ((HB.out.mono hlow).grown hz (Nat.le_trans hlow HB.out.size) (fun k hk => by cases hk; exact HV0.out.1))); (have HK3 := Aside0.mk (Ev.K_trans HK.out (Ev.K_grown' hz) HB.out.size)); refine (Ev.put_ok HV3.out (l := []) (Kd.R_reads' (Kd.R_nil Kd.bool 4 _ 0 (fun _ => True))).2.2 (Nat.le_refl _) Ev.none_x).mono ?_; rintro r w4 ⟨rfl, hV, hk, hb⟩))
    go_end0
    exact ⟨rfl, hV, Ev.K_trans HK3.out hk HB3.out.size, HB3.out.trans hb⟩
set_option maxHeartbeats 4000000 in
set_option maxRecDepth 100000 in
theorem Ev.clone_ok {w : World} {b e g : Nat} {L : List Int} {c : Int} (h : Ev.V w b e g L c) : Calls Try.prog 61 #[.pointer (some ⟨e, 0, none⟩)] w fun r w' => ∃ e2 g2, r = .returned (.pointer (some ⟨e2, 0, none⟩)) ∧ Ev.V w' w.heap.size e2 g2 L c ∧ Below w.heap.size w w' := by
  have hu := Try.underlying115
  have HV0 := Aside0.mk h
  clear h
  go_enter Try.func61, Try.ntmps61
  go_wp2_with (first | (go_at_call 75; (with_reducible refine (Ev.none_ok HV0.out).mono ?_); rintro r w1 ⟨rfl, hb⟩; have HV := Aside0.mk (Ev.V_below HV0.out hb); have HB := Aside0.mk hb; clear hb; have h1 := HV.out.ptr; have h2 := HV.out.cnt))
  refine start_ (n := 12) (S := fun w' => w'.cell? ⟨e, 0, none⟩ = some (.pointer (some ⟨g, 0, none⟩)) ∧ w'.cell? ⟨e, 1, none⟩ = some (.int .u16 c)) (ds := []) #[false, false, false, false, false, false, false, false, false, false, false, false] (by kernel_rfl) rfl rfl ⟨h1, h2⟩ (fun hHeld => ?_)
  have HVd : Aside0 (Ev.V w1.drew b e g L c) := ⟨HV.out⟩
  have HBd : Aside0 (Below w.heap.size w w1.drew) := ⟨below_drew1 HB.out⟩
  clear HV HB h1 h2
  generalize w1.drew = w1d at HVd HBd hHeld ⊢
  refine pure_ (i := 0) (N := some 7) (v := ?_) (a' := ?_) #[true, false, false, false, false, false, false, false, false, false, false, false] rfl rfl (by kernel_rfl) (fun _ _ _ h => h) (Or.inl ⟨by rfl, ?_⟩) ?_ ?_
  rotate_left
  · intro w'
    go_simp
    first | with_reducible rfl | (simp [Instr.field, go_sem]; rfl)
  rotate_left
  · simp only [Act.put, List.setIfInBounds_toArray, List.set_cons_zero, List.set_cons_succ]
    rfl
  refine pure_ (i := 1) (N := some 8) (v := ?_) (a' := ?_) #[true, true, false, false, false, false, false, false, false, false, false, false] rfl rfl (by kernel_rfl) (fun _ _ _ h => h) (Or.inl ⟨by rfl, ?_⟩) ?_ ?_
  rotate_left
  · intro w'
    go_simp
    first | with_reducible rfl | (simp [Instr.field, go_sem]; rfl)
  rotate_left
  · simp only [Act.put, List.setIfInBounds_toArray, List.set_cons_zero, List.set_cons_succ]
    rfl
  refine pure_ (i := 2) (N := some 9) (v := ?_) (a' := ?_) #[true, true, true, false, false, false, false, false, false, false, false, false] rfl rfl (by kernel_rfl) (fun _ _ _ h => h) (Or.inl ⟨by rfl, ?_⟩) ?_ ?_
  rotate_left
  · intro w'
    go_simp
    first | with_reducible rfl | (simp [Instr.field, go_sem]; rfl)
  rotate_left
  · simp only [Act.put, List.setIfInBounds_toArray, List.set_cons_zero, List.set_cons_succ]
    rfl
  refine take_ (i := 3) (N := some 10) (v := ?_) (a' := ?_) #[true, true, true, true, false, false, false, false, false, false, false, false] rfl rfl (by kernel_rfl) (fun _ _ _ h => h) (Or.inl ⟨by rfl, ?_⟩) hHeld ?_ ?_
  rotate_left
  · rintro w' ⟨s0, s1⟩
    go_simp
    first | with_reducible rfl | (simp [Instr.field, go_sem]; rfl)
  rotate_left
  · simp only [Act.put, List.setIfInBounds_toArray, List.set_cons_zero, List.set_cons_succ]
    rfl
  refine pure_ (i := 5) (N := some 12) (v := ?_) (a' := ?_) #[true, true, true, true, false, true, false, false, false, false, false, false] rfl rfl (by kernel_rfl) (fun _ _ _ h => h) (Or.inl ⟨by rfl, ?_⟩) ?_ ?_
  rotate_left
  · intro w'
    go_simp
    first | with_reducible rfl | (simp [Instr.field, go_sem]; rfl)
  rotate_left
  · simp only [Act.put, List.setIfInBounds_toArray, List.set_cons_zero, List.set_cons_succ]
    rfl
  refine pure_ (i := 6) (N := some 13) (v := ?_) (a' := ?_) #[true, true, true, true, false, true, true, false, false, false, false, false] rfl rfl (by kernel_rfl) (fun _ _ _ h => h) (Or.inl ⟨by rfl, ?_⟩) ?_ ?_
  rotate_left
  · intro w'
    go_simp
    first | with_reducible rfl | (simp [Instr.field, go_sem]; rfl)
  rotate_left
  · simp only [Act.put, List.setIfInBounds_toArray, List.set_cons_zero, List.set_cons_succ]
    rfl
  refine pure_ (i := 7) (N := some 14) (v := ?_) (a' := ?_) #[true, true, true, true, false, true, true, true, false, false, false, false] rfl rfl (by kernel_rfl) (fun _ _ _ h => h) (Or.inl ⟨by rfl, ?_⟩) ?_ ?_
  rotate_left
  · intro w'
    go_simp
    first | with_reducible rfl | (simp [Instr.field, go_sem]; rfl)
  rotate_left
  · simp only [Act.put, List.setIfInBounds_toArray, List.set_cons_zero, List.set_cons_succ]
    rfl
  refine take_ (i := 8) (N := some 15) (v := ?_) (a' := ?_) #[true, true, true, true, false, true, true, true, true, false, false, false] rfl rfl (by kernel_rfl) (fun _ _ _ h => h) (Or.inl ⟨by rfl, ?_⟩) hHeld ?_ ?_
  rotate_left
  · rintro w' ⟨s0, s1⟩
    go_simp
    first | with_reducible rfl | (simp [Instr.field, go_sem]; rfl)
  rotate_left
  · simp only [Act.put, List.setIfInBounds_toArray, List.set_cons_zero, List.set_cons_succ]
    rfl
  refine one_ (i := 4) (N := some 11) #[true, true, true, true, true, true, true, true, true, false, false, false] rfl rfl (by kernel_rfl) (by decide) (fun K hK => ?_)
  refine goes_ Try.func81 (by kernel_rfl) rfl #[.pointer (some ⟨g, 0, none⟩)] (by rfl) rfl rfl (by (try simp only [List.map_toArray, List.map_cons, List.map_nil]); first | done | rfl) ?_
  refine (Ring.clone_ok HVd.out.ring).mono ?_
  rintro r w2 ⟨g2, rfl, hg2, hV, hb⟩
  refine ⟨_, rfl, ?_⟩
  have HV2 := Aside0.mk (Ev.V_below HVd.out hb)
  refine hK.out _ _ ⟨HV2.out.ptr, HV2.out.cnt⟩ (fun hHeld => ?_)
  clear hK K
  refine norm_ (a' := ?_) ?_ ?_
  rotate_left
  · show Act.put _ (some 11) _ = _
    simp only [Act.put, List.setIfInBounds_toArray, List.set_cons_zero, List.set_cons_succ]
    rfl
  refine pure_ (i := 9) (N := some 16) (v := ?_) (a' := ?_) #[true, true, true, true, true, true, true, true, true, true, false, false] rfl rfl (by kernel_rfl) (fun _ _ _ h => h) (Or.inl ⟨by rfl, ?_⟩) ?_ ?_
  rotate_left
  · intro w'
    go_simp
    first | with_reducible rfl | (simp [Instr.field, go_sem]; rfl)
  rotate_left
  · simp only [Act.put, List.setIfInBounds_toArray, List.set_cons_zero, List.set_cons_succ]
    rfl
  refine one_ (i := 10) (N := some 17) #[true, true, true, true, true, true, true, true, true, true, true, false] rfl rfl (by kernel_rfl) (by decide) (fun K hK => ?_)
  refine box_step (by rfl) (N := 17) rfl (cs := #[.pointer (some ⟨g2, 0, none⟩), .int .u16 c]) (t := 115) (by first | (go_simp; done) | (go_simp; rfl)) ?_
  intro e2 he2 w3 hbox hb3
  have HV3 := Aside0.mk (Ev.V_below HV2.out hb3)
  refine hK.out _ _ ⟨HV3.out.ptr, HV3.out.cnt⟩ (fun hHeld => ?_)
  clear hK K
  refine norm_ (a' := ?_) ?_ ?_
  rotate_left
  · show Act.put _ (some 17) _ = _
    simp only [Act.put, List.setIfInBounds_toArray, List.set_cons_zero, List.set_cons_succ]
    rfl
  refine pure_ (i := 11) (N := some 2) (v := ?_) (a' := ?_) #[true, true, true, true, true, true, true, true, true, true, true, true] rfl rfl (by kernel_rfl) (fun _ _ _ h => h) (Or.inl ⟨by rfl, ?_⟩) ?_ ?_
  rotate_left
  · intro w'
    go_simp
    first | with_reducible rfl | (simp [Instr.field, go_sem]; rfl)
  rotate_left
  · simp only [Act.put, List.setIfInBounds_toArray, List.set_cons_zero, List.set_cons_succ]
    rfl
  refine done_ (by kernel_rfl) ?_
  go_wp2
  go_ret
  have q1 : w.heap.size ≤ w1d.heap.size := HBd.out.size
  have q2 : w1d.heap.size ≤ w2.heap.size := hb.size
  have q3 := Ring.V_lt hV
  subst he2
  exact ⟨_, g2, rfl, ⟨by omega, by omega, by omega, hbox, Ring.V_below hV hb3⟩, below_step (below_step HBd.out hb) hb3⟩
def Ev.long (L : List Int) (c m : Int) : List Int := ((6 + (L.length : Int)) % 256) :: (Ev.short c ++ word_Put.bs m ++ L)
theorem Ev.long_len (L : List Int) (c m : Int) : (Ev.long L c m).length = L.length + 7 := by simp [Ev.long, Ev.short, word_Put.bs]
theorem Ev.V_row {w w1 : World} {b e g base : Nat} {L : List Int} {c : Int} {v : Value} {M : List Int} (hV : Ev.V w b e g L c) (h : Kd.R (Kd.int .u8) 5 w base (fun _ => True) v M) (_hx : True → True) (hg : w.grownBy w1 v.ownBlock) : Ev.V w1 b e g L c := by
  obtain ⟨a1, a2, a3, a4, all, next, ⟨a5, a6⟩, a7⟩ := hV
  have h2 := Kd.R_types (Kd.R_types h a4 (by decide)) a5 (by decide)
  exact ⟨a1, a2, a3, (hg.block e (blk_lt a4) (fun q => (h2.1 e q.symm).1.2 rfl)).trans a4, all, next, ⟨(hg.block g (blk_lt a5) (fun q => (h2.1 g q.symm).2 rfl)).trans a5, a6⟩, a7⟩
set_option maxHeartbeats 4000000 in
set_option maxRecDepth 100000 in
theorem Ev.long_ok {w : World} {b e g : Nat} {L : List Int} {c : Int} (h : Ev.V w b e g L c) (m : Int) : Calls Try.prog 52 #[.pointer (some ⟨e, 0, none⟩), .int .u16 m] w fun r w' => ∃ v, r = .returned v ∧ Kd.R (Kd.int .u8) 5 w' w.heap.size (fun _ => True) v (Ev.long L c m) ∧ Below w.heap.size w w' := by
  have hu := Try.underlying115
  have HV0 := Aside0.mk h
  clear h
  have hL := HV0.out.len
  go_enter Try.func52, Try.ntmps52
  go_wp2_with (first
    | (go_at_call 75; (with_reducible refine (Ev.none_ok HV0.out).mono ?_); rintro r w1 ⟨rfl, hb⟩; have HV := Aside0.mk (Ev.V_below HV0.out hb); have HB := Aside0.mk hb; clear hb)
    | (go_at_call 53; (with_reducible refine (Ev.short_ok HV.out).mono ?_); rintro r w2 ⟨vs, rfl, ho, hb⟩; have HS := Aside0.mk (Kd.R_lower ho (below_size HB.out)); have HB2 := Aside0.mk (below_step HB.out hb); have HV2 := Aside0.mk (Ev.V_below HV.out hb); clear HB HV hb ho; have HB := HB2; have HV := HV2; clear HB2 HV2)
    | ((with_reducible refine gate_dst (N := 11) rfl ?_); refine Kd.R_lit (Kd.int .u16) _ 55 ?hg (N := 11) ?hd (xs := ([m] : List Int)) (inner := [.int .u16 m]) (ok := fun _ => True) (okp := fun _ => True) ?hr ?hp (fun _ hk => hk) trivial (Below.refl _ _) (Nat.le_refl _) (by simp) ?_; (case hd => rfl); (case hg => rfl); (case hr => first | (go_simp; done) | (go_simp; rfl)); (case hp => exact (Reps.one (show Kd.M (Kd.int .u16) _ _ _ m [.int .u16 m] from rfl) (Reps.none _ _))); intro vl w3 ho hb _ _; obtain ⟨Al, cl, el⟩ := Kd.R_slice ho; subst el; replace ho : Kd.R (Kd.int .u16) 55 _ _ _ (.slice Al 1 cl) [m] := ho; have HL := Aside0.mk ho; have HB2 := Aside0.mk (below_step HB.out hb); have HV2 := Aside0.mk (Ev.V_below HV.out hb); have HS2 := Aside0.mk (Kd.R_below HS.out hb); clear HB hb ho HV HS; have HB := HB2; have HV := HV2; have HS := HS2; clear HB2 HV2 HS2)
    | (go_at_call 78; refine (word_Put.calls _ _ [m] _ _ (Kd.R_reads' HL.out).2.2 (Kd.R_reads' HL.out).2.1 (Ev.put1 m)).mono ?_; rintro r w4 ⟨vp, rfl, ho, hb⟩; obtain ⟨Ap, cp, ep⟩ := Kd.R_slice ho; subst ep; have HP := Aside0.mk ho; have HB2 := Aside0.mk (below_step HB.out hb); have HV2 := Aside0.mk (Ev.V_below HV.out hb); have HS2 := Aside0.mk (Kd.R_below HS.out hb); clear HB hb ho HV HS HL; have HB := HB2; have HV := HV2; have HS := HS2; clear HB2 HV2 HS2)
    | ((with_reducible refine gate_builtin (b := .append) (xs := #[.tmp 9, .tmp 12]) rfl ?_); at_builtin; refine Kd.R_append_rows (Kd.int .u8) (w0 := w) w.heap.size rfl (.tmp 9) (.tmp 12) 23 5 (.int .u8 0) 1 rfl Try.underlying23 Ring.info rfl (by decide) (by omega) vs (Ev.short c) (word_Put.bs m) _ _ _ (fun _ => True) (fun _ => False) rfl rfl HS.out (Kd.R_reads' HP.out).2.2 (fun _ _ h => h) (fun _ h => h.elim) (fun _ _ => trivial) HB.out (below_size HB.out) (by rw [Ev.short_len]; simp [word_Put.bs]) ?_; intro v1 w5 ho hb hg hat; have HV2 := Aside0.mk (Ev.V_row HV.out HS.out (fun h => h) hg); have HB2 := Aside0.mk hb; clear HB HV HS HP hg hat hb; have HB := HB2; have HV := HV2; clear HB2 HV2; have HS := Aside0.mk ho; clear ho)
    | (go_at_call 47; (with_reducible refine (Ev.list_ok HV.out).mono ?_); rintro r w6 ⟨vl, rfl, ho, hb⟩; obtain ⟨Al, cl, el⟩ := Kd.R_slice ho; subst el; have HL := Aside0.mk ho; have HB2 := Aside0.mk (below_step HB.out hb); have HV2 := Aside0.mk (Ev.V_below HV.out hb); have HS2 := Aside0.mk (Kd.R_below HS.out hb); clear HB hb ho HV HS; have HB := HB2; have HV := HV2; have HS := HS2; clear HB2 HV2 HS2)
    | ((with_reducible refine gate_builtin (b := .append) (xs := #[.tmp 13, .tmp 15]) rfl ?_); at_builtin; refine Kd.R_append_rows (Kd.int .u8) (w0 := w) w.heap.size rfl (.tmp 13) (.tmp 15) 23 5 (.int .u8 0) 1 rfl Try.underlying23 Ring.info rfl (by decide) (by omega) v1 (Ev.short c ++ word_Put.bs m) (L) _ _ _ (fun _ => True) (fun _ => False) rfl rfl HS.out (Kd.R_reads' HL.out).2.2 (fun _ _ h => h) (fun _ h => h.elim) (fun _ _ => trivial) HB.out (below_size HB.out) (by rw [List.length_append, Ev.short_len]; simp [word_Put.bs]; omega) ?_; intro v2 w7 ho hb hg hat; have HB2 := Aside0.mk hb; clear HB HV HS HL hg hat hb; have HB := HB2; clear HB2; have hB : (Ev.short c ++ word_Put.bs m ++ L).length = 6 + L.length := (by simp [Ev.short, word_Put.bs]; omega); generalize hBe : Ev.short c ++ word_Put.bs m ++ L = B at ho hB; obtain ⟨Ab, cb, eb⟩ := Kd.R_slice ho; subst eb; have HS := Aside0.mk ho; clear ho; replace hBe := Aside0.mk hBe; replace hB := Aside0.mk hB)
    | ((with_reducible refine gate_dst (N := 20) rfl ?_); refine Kd.R_lit (Kd.int .u8) _ 5 ?hg (N := 20) ?hd (xs := ([((B.length : Int) % 256)] : List Int)) (inner := [.int .u8 ((B.length : Int) % 256)]) (ok := fun _ => True) (okp := fun _ => True) ?hr ?hp (fun _ hk => hk) trivial (Below.refl _ _) (Nat.le_refl _) (by simp) ?_; (case hd => rfl); (case hg => rfl); (case hr => first | (go_simp; done) | (go_simp; rfl)); (case hp => exact (Reps.one (show Kd.M (Kd.int .u8) _ _ _ ((B.length : Int) % 256) [.int .u8 ((B.length : Int) % 256)] from rfl) (Reps.none _ _))); intro vx w8 ho hb _ _; have HX := Aside0.mk (Kd.R_lower ho (below_size HB.out)); have HB2 := Aside0.mk (below_step HB.out hb); have HS2 := Aside0.mk (Kd.R_below HS.out hb); clear HB HS hb ho; have HB := HB2; have HS := HS2; clear HB2 HS2)
    | ((with_reducible refine gate_builtin (b := .append) (xs := #[.tmp 20, .tmp 21]) rfl ?_); at_builtin; refine Kd.R_append_rows (Kd.int .u8) (w0 := w) w.heap.size rfl (.tmp 20) (.tmp 21) 23 5 (.int .u8 0) 1 rfl Try.underlying23 Ring.info rfl (by decide) (by omega) vx ([(B.length : Int) % 256]) (B) _ _ _ (fun _ => True) (fun _ => False) rfl rfl HX.out (Kd.R_reads' HS.out).2.2 (fun _ _ h => h) (fun _ h => h.elim) (fun _ _ => trivial) HB.out (below_size HB.out) (by have := hB.out; simp; omega) ?_; intro v3 w9 ho hb hg hat; have HB2 := Aside0.mk hb; clear HB HX HS hg hat hb; have HB := HB2; clear HB2; have HX := Aside0.mk ho; clear ho))
  go_ret
  refine ⟨_, rfl, ?_, HB.out⟩
  have e1 : Ev.long L c m = [(B.length : Int) % 256] ++ B := by
    unfold Ev.long
    rw [hBe.out, hB.out]
    simp
  rw [e1]
  exact HX.out

theorem Ev.sx1 : (Ev.x4 false false false true :: ([] : List Int)).take 64 = [192] := by decide +kernel
theorem Ev.sx2 : IntKind.u16.wrap (0 + 1) = 1 := by decide +kernel
theorem Ev.sx3 : Ev.short 1 = [0, 0, 0, 1] := by decide +kernel
theorem Ev.sx4 : Ev.long [192] 1 9 = [7, 0, 0, 0, 1, 0, 9, 192] := by decide +kernel
set_option maxHeartbeats 8000000 in
set_option maxRecDepth 100000 in
theorem Ev.sure {w : World} : Calls Try.prog 45 #[] w fun e w' => e = .returned (.bool true) ∧ Below w.heap.size w w' := by
  have HB := Aside0.mk (Below.refl w.heap.size w)
  go_enter Try.func45, Try.ntmps45
  go_wp2_with (first
    | (go_at_call 46; (with_reducible refine Ev.new_ok.mono ?_); rintro r w1 ⟨e, g, rfl, hV, hb⟩; have HV := Aside0.mk hV; have HB2 := Aside0.mk (below_step HB.out hb); clear HB hb hV; have HB := HB2; clear HB2)
    | (go_at_call 48; (with_reducible refine (Ev.heard_ok HV.out _ _ _ _).mono ?_); rintro r w1 ⟨rfl, hV, hk, hb⟩; rw [Ev.sx1] at hV; have HV2 := Aside0.mk hV; have HB2 := Aside0.mk (HB.out.trans (hb.mono (by exact Nat.le_refl _))); clear HB hb hV hk HV; have HB := HB2; have HV := HV2; clear HB2 HV2)
    | (go_at_call 50; (with_reducible refine (Ev.done_ok HV.out).mono ?_); rintro r w1 ⟨rfl, hV, hk, hb⟩; rw [Ev.sx2] at hV; have HV2 := Aside0.mk hV; have HB2 := Aside0.mk (HB.out.trans (hb.mono (by exact Nat.le_refl _))); clear HB hb hV hk HV; have HB := HB2; have HV := HV2; clear HB2 HV2)
    | (go_at_call 50; (with_reducible refine Ev.done_nil.mono ?_); rintro r w1 ⟨rfl, hb⟩; have HV2 := Aside0.mk (Ev.V_below HV.out hb); have HB2 := Aside0.mk (below_step HB.out hb); clear HB hb HV; have HB := HB2; have HV := HV2; clear HB2 HV2)
    | (go_at_call 47; (with_reducible refine (Ev.list_ok HV.out).mono ?_); rintro r w1 ⟨v, rfl, ho, hb⟩; have HV2 := Aside0.mk (Ev.V_below HV.out hb); have HB2 := Aside0.mk (below_step HB.out hb); clear HB hb HV; have HB := HB2; have HV := HV2; clear HB2 HV2; obtain ⟨Av, cv, ev⟩ := Kd.R_slice ho; subst ev; replace ho : Kd.R (Kd.int .u8) 5 _ _ _ (.slice Av 1 cv) [192] := ho; have HO := Aside0.mk ho; clear ho)
    | (go_at_call 47; (with_reducible refine Ev.list_nil.mono ?_); rintro r w1 ⟨rfl, hb⟩; have HV2 := Aside0.mk (Ev.V_below HV.out hb); have HB2 := Aside0.mk (below_step HB.out hb); clear HB hb HV; have HB := HB2; have HV := HV2; clear HB2 HV2)
    | (go_at_call 53; (with_reducible refine (Ev.short_ok HV.out).mono ?_); rintro r w1 ⟨v, rfl, ho, hb⟩; have HV2 := Aside0.mk (Ev.V_below HV.out hb); have HB2 := Aside0.mk (below_step HB.out hb); clear HB hb HV; have HB := HB2; have HV := HV2; clear HB2 HV2; rw [Ev.sx3] at ho; obtain ⟨Av, cv, ev⟩ := Kd.R_slice ho; subst ev; replace ho : Kd.R (Kd.int .u8) 5 _ _ _ (.slice Av 4 cv) [0, 0, 0, 1] := ho; have HO := Aside0.mk ho; clear ho)
    | (go_at_call 52; (with_reducible refine (Ev.long_ok HV.out _).mono ?_); rintro r w1 ⟨v, rfl, ho, hb⟩; have HV2 := Aside0.mk (Ev.V_below HV.out hb); have HB2 := Aside0.mk (below_step HB.out hb); clear HB hb HV; have HB := HB2; have HV := HV2; clear HB2 HV2; rw [Ev.sx4] at ho; obtain ⟨Av, cv, ev⟩ := Kd.R_slice ho; subst ev; replace ho : Kd.R (Kd.int .u8) 5 _ _ _ (.slice Av 8 cv) [7, 0, 0, 0, 1, 0, 9, 192] := ho; have HO := Aside0.mk ho; clear ho)
    | (go_at_call 55; (with_reducible refine (Ev.count_ok HV.out).mono ?_); rintro r w1 ⟨rfl, hb⟩; have HV2 := Aside0.mk (Ev.V_below HV.out hb); have HB2 := Aside0.mk (below_step HB.out hb); clear HB hb HV; have HB := HB2; have HV := HV2; clear HB2 HV2)
    | (go_at_call 55; (with_reducible refine Ev.count_nil.mono ?_); rintro r w1 ⟨rfl, hb⟩; have HV2 := Aside0.mk (Ev.V_below HV.out hb); have HB2 := Aside0.mk (below_step HB.out hb); clear HB hb HV; have HB := HB2; have HV := HV2; clear HB2 HV2)
    | ((with_reducible refine gate_dst (N := 14) rfl ?_); (try (refine gate_guard (by rfl) ?_; dsimp only)); refine Kd.R_lit (Kd.int .u8) _ 5 ?hg (N := 14) ?hd (xs := ([192] : List Int)) (inner := [.int .u8 192]) (ok := fun _ => True) (okp := fun _ => True) ?hr ?hp (fun _ hk => hk) trivial (Below.refl _ _) (Nat.le_refl _) (by simp) ?_; (case hd => rfl); (case hg => rfl); (case hr => first | (go_simp; done) | (go_simp; rfl)); (case hp => exact (Reps.one (show Kd.M (Kd.int .u8) _ _ _ 192 [.int .u8 192] from rfl) (Reps.none _ _))); intro vq w9 ho hb _ _; obtain ⟨Aq, cq, eq⟩ := Kd.R_slice ho; subst eq; replace ho : Kd.R (Kd.int .u8) 5 _ _ _ (.slice Aq 1 cq) [192] := ho; have HQ := Aside0.mk ho; clear ho; have HO2 := Aside0.mk (Kd.R_below HO.out hb); clear HO; have HO := HO2; clear HO2; have HV2 := Aside0.mk (Ev.V_below HV.out hb); have HB2 := Aside0.mk (below_step HB.out hb); clear HB hb HV; have HB := HB2; have HV := HV2; clear HB2 HV2)
    | ((with_reducible refine gate_dst (N := 19) rfl ?_); (try (refine gate_guard (by rfl) ?_; dsimp only)); refine Kd.R_lit (Kd.int .u8) _ 5 ?hg (N := 19) ?hd (xs := ([0, 0, 0, 1] : List Int)) (inner := [.int .u8 0, .int .u8 0, .int .u8 0, .int .u8 1]) (ok := fun _ => True) (okp := fun _ => True) ?hr ?hp (fun _ hk => hk) trivial (Below.refl _ _) (Nat.le_refl _) (by simp) ?_; (case hd => rfl); (case hg => rfl); (case hr => first | (go_simp; done) | (go_simp; rfl)); (case hp => exact (Reps.one (show Kd.M (Kd.int .u8) _ _ _ 0 [.int .u8 0] from rfl) (Reps.one (show Kd.M (Kd.int .u8) _ _ _ 0 [.int .u8 0] from rfl) (Reps.one (show Kd.M (Kd.int .u8) _ _ _ 0 [.int .u8 0] from rfl) (Reps.one (show Kd.M (Kd.int .u8) _ _ _ 1 [.int .u8 1] from rfl) (Reps.none _ _)))))); intro vq w9 ho hb _ _; obtain ⟨Aq, cq, eq⟩ := Kd.R_slice ho; subst eq; replace ho : Kd.R (Kd.int .u8) 5 _ _ _ (.slice Aq 4 cq) [0, 0, 0, 1] := ho; have HQ := Aside0.mk ho; clear ho; have HO2 := Aside0.mk (Kd.R_below HO.out hb); clear HO; have HO := HO2; clear HO2; have HV2 := Aside0.mk (Ev.V_below HV.out hb); have HB2 := Aside0.mk (below_step HB.out hb); clear HB hb HV; have HB := HB2; have HV := HV2; clear HB2 HV2)
    | ((with_reducible refine gate_dst (N := 25) rfl ?_); (try (refine gate_guard (by rfl) ?_; dsimp only)); refine Kd.R_lit (Kd.int .u8) _ 5 ?hg (N := 25) ?hd (xs := ([7, 0, 0, 0, 1, 0, 9, 192] : List Int)) (inner := [.int .u8 7, .int .u8 0, .int .u8 0, .int .u8 0, .int .u8 1, .int .u8 0, .int .u8 9, .int .u8 192]) (ok := fun _ => True) (okp := fun _ => True) ?hr ?hp (fun _ hk => hk) trivial (Below.refl _ _) (Nat.le_refl _) (by simp) ?_; (case hd => rfl); (case hg => rfl); (case hr => first | (go_simp; done) | (go_simp; rfl)); (case hp => exact (Reps.one (show Kd.M (Kd.int .u8) _ _ _ 7 [.int .u8 7] from rfl) (Reps.one (show Kd.M (Kd.int .u8) _ _ _ 0 [.int .u8 0] from rfl) (Reps.one (show Kd.M (Kd.int .u8) _ _ _ 0 [.int .u8 0] from rfl) (Reps.one (show Kd.M (Kd.int .u8) _ _ _ 0 [.int .u8 0] from rfl) (Reps.one (show Kd.M (Kd.int .u8) _ _ _ 1 [.int .u8 1] from rfl) (Reps.one (show Kd.M (Kd.int .u8) _ _ _ 0 [.int .u8 0] from rfl) (Reps.one (show Kd.M (Kd.int .u8) _ _ _ 9 [.int .u8 9] from rfl) (Reps.one (show Kd.M (Kd.int .u8) _ _ _ 192 [.int .u8 192] from rfl) (Reps.none _ _)))))))))); intro vq w9 ho hb _ _; obtain ⟨Aq, cq, eq⟩ := Kd.R_slice ho; subst eq; replace ho : Kd.R (Kd.int .u8) 5 _ _ _ (.slice Aq 8 cq) [7, 0, 0, 0, 1, 0, 9, 192] := ho; have HQ := Aside0.mk ho; clear ho; have HO2 := Aside0.mk (Kd.R_below HO.out hb); clear HO; have HO := HO2; clear HO2; have HV2 := Aside0.mk (Ev.V_below HV.out hb); have HB2 := Aside0.mk (below_step HB.out hb); clear HB hb HV; have HB := HB2; have HV := HV2; clear HB2 HV2)
    | (go_at_call 18; (with_reducible refine (Ring.bytes HO.out HQ.out (by decide)).mono ?_); rintro r w1 ⟨rfl, hb⟩; have HV2 := Aside0.mk (Ev.V_below HV.out hb); have HB2 := Aside0.mk (below_step HB.out hb); clear HB hb HV; have HB := HB2; have HV := HV2; clear HB2 HV2; clear HO HQ))
  go_ret
  exact ⟨rfl, HB.out⟩
def bilgelaw19_sure.f : Option Bool := some true
theorem bilgelaw19_sure.calls  (r : Bool) (w : World) (h : bilgelaw19_sure.f  = some r) :
    Calls Try.prog 45 #[] w fun e w' => e = .returned (.bool r) ∧ Below w.heap.size w w' := by
  obtain rfl := Option.some.inj h
  exact Ev.sure


end Go.Proofs.Ytnaedmakkefdfaa.P
