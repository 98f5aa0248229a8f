-- Written by the session's own turn of the kit's print program (wip/patch_print.py). Not trusted: Lean checks it.
import Derived.Test.YtnaedmakkefdfaaPx0
import Derived.Test.YtnaedmakkefdfaaPx1
import Derived.Test.YtnaedmakkefdfaaPx2
import Derived.Test.YtnaedmakkefdfaaPx3
import Derived.Test.YtnaedmakkefdfaaPx4
namespace Go.Proofs.Ytnaedmakkefdfaa.P
open Go.RowKit Go.Proofs.YtnaedmakkefdfaaW.PrintWords Go.Proofs.YtnaedmakkefdfaaW.PrintLast Go.Proofs.YtnaedmakkefdfaaW.PrintMore
attribute [local go_sem] max2_int min2_int max_two min_two max_three min_three max_four min_four   -- for this text's walks alone
set_option linter.unusedVariables false
set_option linter.unusedSimpArgs false

/-! ### bilgelaw19_EventDoes: function 13 -/
def bilgelaw19_EventDoes.f (l0 : List S81) (a1 : Int) : Option Bool := if l0.length ≤ 281474976710656 ∧ 0 ≤ a1 ∧ a1 ≤ 65535 then some true else none
theorem Ev.sizeL : (Try.prog.info? 89).map (·.size) = some 2 := by kernel_rfl
theorem Ev.sizeO : (Try.prog.info? 81).map (·.size) = some 6 := by kernel_rfl
theorem Ev.zeroO (w : World) : (zeroValue 81).run Try.prog w = .ok (.agg #[.int .i64 0, .int .i64 0, .bool false, .bool false, .bool false, .bool false]) w := by kernel_rfl
theorem Ev.refput {L : List Int} {b : Int} (hL : L.length ≤ 64) : bilgeref07_Put.f L 64 b = some ((b :: L).take 64) := by
  unfold bilgeref07_Put.f
  simp only [Option.bind_some, List.length_nil, List.nil_append, List.length_append, List.length_cons]
  rw [if_pos (by omega), if_pos (by omega)]
  by_cases h : (((0 + 1 + L.length : Nat)) : Int) > 64
  · rw [if_pos h, if_pos (by omega), if_pos (by omega)]; rfl
  · rw [if_neg h, List.take_of_length_le (by simp; omega)]; rfl
theorem Ev.ref_put {L : List Int} {c b : Int} (hL : L.length ≤ 64) : bilgeref19_put.f L c b = some ((b :: L).take 64, c) := by
  unfold bilgeref19_put.f
  rw [Ev.refput hL]; rfl
theorem Ev.ref_heard {L : List Int} {c : Int} (hL : L.length ≤ 64) (s o l a : Bool) : bilgeref19_Heard.f 5 L c s o l a = some ((Ev.x4 s o l a :: L).take 64, c) := by
  cases s <;> cases o <;> cases l <;> cases a <;> simp [bilgeref19_Heard.f, bilgeref19_Heard.j0, bilgeref19_Heard.j1, Ev.ref_put hL, Ev.x4]
theorem Ev.ref_said {L : List Int} {c : Int} (hL : L.length ≤ 64) (code : Int) (l : Bool) : bilgeref19_Said.f 5 L c code l = some ((Ev.x3 (decide (1 ≤ code ∧ code ≤ 3)) (decide (code = 4)) l :: L).take 64, c) := by
  by_cases c1 : 1 ≤ code
  · by_cases c2 : code ≤ 3
    · have c3 : ¬ code = 4 := by omega
      cases l <;> simp [bilgeref19_Said.f, bilgeref19_Said.j0, bilgeref19_Said.j1, Ev.ref_put hL, Ev.x3, c1, c2, c3]
    · by_cases c3 : code = 4
      · subst c3
        cases l <;> simp [bilgeref19_Said.f, bilgeref19_Said.j0, bilgeref19_Said.j1, Ev.ref_put hL, Ev.x3]
      · cases l <;> simp [bilgeref19_Said.f, bilgeref19_Said.j0, bilgeref19_Said.j1, Ev.ref_put hL, Ev.x3, c1, c2, c3]
  · have c3 : ¬ code = 4 := by omega
    cases l <;> simp [bilgeref19_Said.f, bilgeref19_Said.j0, bilgeref19_Said.j1, Ev.ref_put hL, Ev.x3, c1, c3]
theorem Ev.ref_entered {L : List Int} {c : Int} (hL : L.length ≤ 64) : bilgeref19_Entered.f L c = some ((4 :: L).take 64, c) := by
  unfold bilgeref19_Entered.f
  rw [Ev.ref_put hL]; rfl
theorem Ev.ref_restarted {L : List Int} {c : Int} (hL : L.length ≤ 64) (w : Bool) : bilgeref19_Restarted.f L c w = some ((0 :: (if w = true then [] else L)).take 64, 0) := by
  cases w
  · simp [bilgeref19_Restarted.f, Ev.ref_put hL]
  · simp [bilgeref19_Restarted.f, Ev.ref_put (L := []) (by simp)]
theorem Ev.bs_eq {x : Int} (h : 0 ≤ x ∧ x ≤ 65535) : word_Put.bs x = [(IntKind.u16.wrap (Int.tdiv x 256)) % 256, (Int.tmod x 256) % 256] := by
  have e1 : Go.bits .and .u16 x 255 = x % 256 := bits_mask .u16 16 (by decide) (fun n h0 h1 => by simp [IntKind.wrap, IntKind.bits, IntKind.signed]; omega) 8 (by decide) x h.1 (by omega)
  have e2 : Int.tdiv x 256 = x / 256 := Int.tdiv_eq_ediv_of_nonneg h.1
  have e3 : Int.tmod x 256 = x % 256 := Int.tmod_eq_emod_of_nonneg h.1
  unfold word_Put.bs
  rw [e1, e2, e3]
  simp [IntKind.wrap, IntKind.bits, IntKind.signed]
theorem Ev.rp2 {c : Int} (h : 0 ≤ c ∧ c ≤ 65535) : bilgeref01_Put.f 4 [0, c] = some (Ev.short c) := by
  have z := Ev.bs_eq (x := 0) (by omega)
  have y := Ev.bs_eq h
  unfold Ev.short
  rw [z, y]
  simp [bilgeref01_Put.f, bilgeref01_Put.l0, rd, show wrap64 (0 + 1) = 1 by decide +kernel, show wrap64 (1 + 1) = 2 by decide +kernel, show wrap64 1 = 1 by decide +kernel, show wrap64 2 = 2 by decide +kernel]
theorem Ev.rp3 {c m : Int} (h : 0 ≤ c ∧ c ≤ 65535) (h2 : 0 ≤ m ∧ m ≤ 65535) : bilgeref01_Put.f 5 [0, c, m] = some (Ev.short c ++ word_Put.bs m) := by
  have z := Ev.bs_eq (x := 0) (by omega)
  have y := Ev.bs_eq h
  have x := Ev.bs_eq h2
  unfold Ev.short
  rw [z, y, x]
  simp [bilgeref01_Put.f, bilgeref01_Put.l0, rd, show wrap64 (0 + 1) = 1 by decide +kernel, show wrap64 (1 + 1) = 2 by decide +kernel, show wrap64 (2 + 1) = 3 by decide +kernel, show wrap64 1 = 1 by decide +kernel, show wrap64 2 = 2 by decide +kernel, show wrap64 3 = 3 by decide +kernel]
theorem Ev.ref_short {L : List Int} {c : Int} (h : 0 ≤ c ∧ c ≤ 65535) : bilgeref19_Short.f 4 L c = some (Ev.short c) := by
  unfold bilgeref19_Short.f
  rw [Ev.rp2 h]; rfl
theorem Ev.ref_long {L : List Int} {c m : Int} (hL : L.length ≤ 64) (h : 0 ≤ c ∧ c ≤ 65535) (h2 : 0 ≤ m ∧ m ≤ 65535) : bilgeref19_Long.f 5 L c m = some (Ev.long L c m) := by
  unfold bilgeref19_Long.f
  rw [if_pos (by omega), Ev.rp3 h h2, Option.bind_some, if_pos (by simp [Ev.short, word_Put.bs])]
  simp [Ev.long]
theorem Ev.blk_keep {w w1 : World} {b e g e' : Nat} {L : List Int} {c : Int} (hV : Ev.V w b e g L c) {t : TypeId} {cs : Array Value} (h : w.heap[e']? = some (.cells cs t (0, 0))) (h1 : t ≠ 115) (h2 : t ≠ 132) (hk : Ev.K e g w w1) : w1.heap[e']? = some (.cells cs t (0, 0)) := by
  obtain ⟨_, _, _, a4, _, _, ⟨a5, _⟩, _⟩ := hV
  exact (hk e' (blk_lt h) (blk_ne h a4 h1) (blk_ne h a5 h2)).trans h
theorem Ev.V_setRow {w : World} {b e g e' : Nat} {L : List Int} {c : Int} (hV : Ev.V w b e g L c) {t : TypeId} {cs : Array Value} (h : w.heap[e']? = some (.cells cs t (0, 0))) (h1 : t ≠ 115) (h2 : t ≠ 132) (ds : Array Value) : Ev.V (w.setRow e' ds) b e g L c := by
  obtain ⟨a1, a2, a3, a4, all, next, ⟨a5, a6⟩, a7⟩ := hV
  exact ⟨a1, a2, a3, (setRow_other _ _ _ _ (blk_ne h a4 h1).symm).trans a4, all, next, ⟨(setRow_other _ _ _ _ (blk_ne h a5 h2).symm).trans a5, a6⟩, a7⟩
theorem Ev.R_setRow {w : World} {base e' : Nat} {v : Value} {M : List Int} (h : Kd.R (Kd.int .u8) 5 w base (fun _ => True) v M) {t : TypeId} {cs : Array Value} (hb : w.heap[e']? = some (.cells cs t (0, 0))) (ht : ∀ q, q ∈ 5 :: (Kd.int .u8).E → q ≠ t) (ds : Array Value) : Kd.R (Kd.int .u8) 5 (w.setRow e' ds) base (fun _ => True) v M :=
  Kd.R_mono (Kd.R_move (Kd.R_types h hb ht) (fun k hk => setRow_other _ _ _ _ hk.2)) (fun _ _ => trivial)
theorem Ev.below_setRow {B : Nat} {w0 w : World} {g : Nat} (h : Below B w0 w) (hg : B ≤ g) (ds : Array Value) : Below B w0 (w.setRow g ds) := ⟨h.os, h.tape, h.output, by rw [setRow_size]; exact h.size, fun k hk => (setRow_other _ _ _ _ (by omega)).trans (h.block k hk)⟩
theorem Ev.one2 {w : World} {base : Nat} {v : Value} {M : List Int} {c : Int} (h : Kd.R (Kd.int .u8) 5 w base (fun _ => True) v M) : (#[v, .int .u16 c] : Array Value).all (·.oneCell') = true := by
  obtain ⟨A, k, rfl⟩ := Kd.R_slice h
  simp [Value.oneCell']
theorem Ev.cells6 {w : World} {g : Nat} {a b c d e f : Value} {t : TypeId} (h : w.heap[g]? = some (.cells #[a, b, c, d, e, f] t (0, 0))) : w.cell? ⟨g, 0, none⟩ = some a ∧ w.cell? ⟨g, 1, none⟩ = some b ∧ w.cell? ⟨g, 2, none⟩ = some c ∧ w.cell? ⟨g, 3, none⟩ = some d ∧ w.cell? ⟨g, 4, none⟩ = some e ∧ w.cell? ⟨g, 5, none⟩ = some f :=
  ⟨(blk_cell h 0).trans rfl, (blk_cell h 1).trans rfl, (blk_cell h 2).trans rfl, (blk_cell h 3).trans rfl, (blk_cell h 4).trans rfl, (blk_cell h 5).trans rfl⟩
theorem Ev.V_far {w : World} {b e g e' : Nat} {L : List Int} {c : Int} (hV : Ev.V w b e g L c) {t : TypeId} {cs : Array Value} (h : w.heap[e']? = some (.cells cs t (0, 0))) (h1 : t ≠ 115) (h2 : t ≠ 132) (k : Nat) (u : Value) : Ev.V (w.setCell ⟨e', k, none⟩ u) b e g L c := by
  obtain ⟨a1, a2, a3, a4, all, next, ⟨a5, a6⟩, a7⟩ := hV
  exact ⟨a1, a2, a3, blk_far a4 (blk_ne h a4 h1).symm _, all, next, ⟨blk_far a5 (blk_ne h a5 h2).symm _, a6⟩, a7⟩
theorem Ev.R_far {w : World} {base e' : Nat} {v : Value} {M : List Int} (h : Kd.R (Kd.int .u8) 5 w base (fun _ => True) v M) {t : TypeId} {cs : Array Value} (hb : w.heap[e']? = some (.cells cs t (0, 0))) (ht : ∀ q, q ∈ 5 :: (Kd.int .u8).E → q ≠ t) (k : Nat) (u : Value) : Kd.R (Kd.int .u8) 5 (w.setCell ⟨e', k, none⟩ u) base (fun _ => True) v M :=
  Kd.R_mono (Kd.R_far (p := ⟨e', k, none⟩) (Kd.R_types h hb ht) (fun k hk => hk.2) u) (fun _ _ => trivial)
theorem Ev.V_lts {w : World} {b e g : Nat} {L : List Int} {c : Int} (h : Ev.V w b e g L c) : e < w.heap.size ∧ g < w.heap.size ∧ b ≤ w.heap.size := ⟨blk_lt h.2.2.2.1, Ring.V_lt h.2.2.2.2, Nat.le_trans h.1 (Nat.le_of_lt (blk_lt h.2.2.2.1))⟩
theorem Ev.ne_of {w : World} {n e g e2 g2 b : Nat} {L : List Int} {c : Int} (h : Ev.V w n e2 g2 L c) (hl : e < n ∧ g < n ∧ b ≤ n) : e2 ≠ e ∧ e2 ≠ g ∧ g2 ≠ e ∧ g2 ≠ g := by
  have h1 := h.1
  have h2 := h.2.1
  omega
theorem Ev.V_lower {w : World} {n b e g : Nat} {L : List Int} {c : Int} (h : Ev.V w n e g L c) (hb : b ≤ n) : Ev.V w b e g L c := ⟨Nat.le_trans hb h.1, Nat.le_trans hb h.2.1, h.2.2⟩
theorem Ring.bytes_same {w : World} {b1 b2 : Nat} {o1 o2 : Nat → Prop} {A B : Option Addr} {n m c d : Nat} {l : List Int} (h1 : Kd.R (Kd.int .u8) 5 w b1 o1 (.slice A n c) l) (h2 : Kd.R (Kd.int .u8) 5 w b2 o2 (.slice B m d) l) (hl : l.length ≤ 4611686018427387904) :
    Calls Try.prog 18 #[.slice A n c, .slice B m d] w fun e w' => e = .returned (.bool true) ∧ Below w.heap.size w w' :=
  (Ring.bytes h1 h2 hl).mono (fun e w' hh => by rw [decide_eq_true rfl] at hh; exact hh)
set_option maxHeartbeats 16000000 in
set_option maxRecDepth 100000 in
theorem bilgelaw19_EventDoes.calls (A0 : Option Addr) (c0 : Nat) (l0 : List (S81)) (a1 : Int) (r : Bool) (w : World) (hr0 : Kd.C k81 w A0 l0.length l0) (hc0 : l0.length ≤ c0) (h : bilgelaw19_EventDoes.f l0 a1 = some r) :
    Calls Try.prog 13 #[.slice A0 l0.length c0, .int .u16 a1] w fun e w' => e = .returned (.bool r) ∧ Below w.heap.size w w' := by
  unfold bilgelaw19_EventDoes.f at h
  by_cases hc : l0.length ≤ 281474976710656 ∧ 0 ≤ a1 ∧ a1 ≤ 65535
  · rw [if_pos hc] at h
    obtain rfl := Option.some.inj h
    clear h
    obtain ⟨k1, k2, k3⟩ := hc
    have HR := Aside0.mk hr0
    clear hr0
    have hu89 := Try.underlying89
    have hu81 := Try.underlying81
    have HB := Aside0.mk (Below.refl w.heap.size w)
    by_cases hl : (l0.length : Int) > 300
    · go_enter Try.func13, Try.ntmps13
      go_wp2_with (first | (go_at_call 45; (with_reducible refine Ev.sure.mono ?_); rintro e w1 ⟨rfl, hb⟩))
      go_ret
      exact ⟨rfl, hb⟩
    · go_enter Try.func13, Try.ntmps13
      go_wp2_with (first
        | (go_at_call 46; (with_reducible refine Ev.new_ok.mono ?_); rintro r w1 ⟨e, g, rfl, hV, hb⟩; have HV := Aside0.mk hV; have HB2 := Aside0.mk (below_step HB.out hb); clear HB hb hV; have HB := HB2; clear HB2)
        | ((with_reducible refine gate_dst (N := 6) rfl ?_); refine box_event ?hg (N := 6) ?hd (cs := #[.slice none 0 0, .int .u16 0]) (t := 89) ?hr ?_; (case hd => rfl); (case hg => rfl); (case hr => first | (go_simp; done) | (go_simp; rfl)); intro gw hg w2 hbox hb; have HW := Aside0.mk hbox; have HGW := Aside0.mk (show w.heap.size ≤ gw by (rw [hg]; exact below_size HB.out)); have HV2 := Aside0.mk (Ev.V_below HV.out hb); have HB2 := Aside0.mk (below_step HB.out hb); clear HB HV hbox hb hg; have HB := HB2; have HV := HV2; clear HB2 HV2))
      have HO := Aside0.mk (Kd.R_nil (Kd.int .u8) 5 w2 w.heap.size (fun _ => True))
      go_loopw [5, 7, 8, 9, 17, 18, 19, 20, 21, 22, 23, 24, 25, 26, 27, 28, 29, 30, 31, 32, 33, 34, 35, 36, 37, 38, 39, 40, 41, 42, 43, 44, 45, 46, 47, 48, 49, 50, 51, 52, 53, 54, 55, 56, 57, 58, 59, 60, 61, 62, 63, 64, 65, 66, 67, 68, 69, 70, 71, 72, 73, 74, 75, 76, 77, 78, 79, 80, 81, 82, 83, 84, 85, 86, 87, 88, 89, 90, 91, 92, 93, 94, 95, 96, 97, 98, 99, 100, 101, 102, 103, 104, 105, 106, 107, 108, 109, 110, 111, 112, 113, 114, 115, 116, 117, 118, 119, 120, 121, 122, 123, 124, 125, 126, 127, 128, 129, 130, 131, 132, 133, 134, 135, 136, 137, 138, 139, 140, 141, 142] (fun v5 v7 v8 v9 v17 v18 v19 v20 v21 v22 v23 v24 v25 v26 v27 v28 v29 v30 v31 v32 v33 v34 v35 v36 v37 v38 v39 v40 v41 v42 v43 v44 v45 v46 v47 v48 v49 v50 v51 v52 v53 v54 v55 v56 v57 v58 v59 v60 v61 v62 v63 v64 v65 v66 v67 v68 v69 v70 v71 v72 v73 v74 v75 v76 v77 v78 v79 v80 v81 v82 v83 v84 v85 v86 v87 v88 v89 v90 v91 v92 v93 v94 v95 v96 v97 v98 v99 v100 v101 v102 v103 v104 v105 v106 v107 v108 v109 v110 v111 v112 v113 v114 v115 v116 v117 v118 v119 v120 v121 v122 v123 v124 v125 v126 v127 v128 v129 v130 v131 v132 v133 v134 v135 v136 v137 v138 v139 v140 v141 v142 wr => ∃ (i e g : Nat) (L : List Int) (c : Int) (vl : Value), i ≤ l0.length ∧ v7 = .int .i64 i ∧ v5 = .pointer (some ⟨e, 0, none⟩) ∧ Aside0 (Ev.V wr w.heap.size e g L c) ∧ Aside0 (wr.heap[gw]? = some (.cells #[vl, .int .u16 c] 89 (0, 0))) ∧ Aside0 (Kd.R (Kd.int .u8) 5 wr w.heap.size (fun _ => True) vl L) ∧ Aside0 (Below w.heap.size w wr) ∧ Aside0 (0 ≤ c ∧ c ≤ 65535)) (fun _ v7 _ _ _ _ _ _ _ _ _ _ _ _ _ _ _ _ _ _ _ _ _ _ _ _ _ _ _ _ _ _ _ _ _ _ _ _ _ _ _ _ _ _ _ _ _ _ _ _ _ _ _ _ _ _ _ _ _ _ _ _ _ _ _ _ _ _ _ _ _ _ _ _ _ _ _ _ _ _ _ _ _ _ _ _ _ _ _ _ _ _ _ _ _ _ _ _ _ _ _ _ _ _ _ _ _ _ _ _ _ _ _ _ _ _ _ _ _ _ _ _ _ _ _ _ _ _ _ _ _ => l0.length - (intOf v7).toNat)
      case atStart => exact ⟨0, e, g, [], 0, _, Nat.zero_le _, rfl, rfl, HV, HW, HO, HB, ⟨by omega, by omega⟩⟩
      case round =>
        clear HV HW HO HB
        obtain ⟨i, e, g, L, c, vl, hi, rfl, rfl, HV, HW, HO, HB, HC⟩ := hrel
        by_cases hlt : (i : Int) < l0.length
        · have h0 : (0 : Int) ≤ (i : Int) := by omega
          have hL := HV.out.len
          obtain ⟨ad, ea, hx⟩ := at_T81 (Kd.C_below HR.out HB.out) (i : Int) h0 hlt
          rw [Int.toNat_natCast] at hx
          obtain ⟨x0, x1, x2, x3, x4, x5⟩ := hx
          subst ea
          obtain ⟨Av, cv, ev⟩ := Kd.R_slice HO.out
          subst ev
          have hz8 := Ev.zeroO
          go_upto_block 2 with fail
          have hb3 := below_alloc (Below.refl wr.heap.size wr) (.cells #[.int .i64 (rd_T81 l0 (i : Int)).f0, .int .i64 (rd_T81 l0 (i : Int)).f1, .bool (rd_T81 l0 (i : Int)).f2.f0, .bool (rd_T81 l0 (i : Int)).f2.f1, .bool (rd_T81 l0 (i : Int)).f2.f2, .bool (rd_T81 l0 (i : Int)).f2.f3] 81 (0, 0))
          have H8 := Aside0.mk (blk_new wr (.cells #[.int .i64 (rd_T81 l0 (i : Int)).f0, .int .i64 (rd_T81 l0 (i : Int)).f1, .bool (rd_T81 l0 (i : Int)).f2.f0, .bool (rd_T81 l0 (i : Int)).f2.f1, .bool (rd_T81 l0 (i : Int)).f2.f2, .bool (rd_T81 l0 (i : Int)).f2.f3] 81 (0, 0)))
          have HV2 := Aside0.mk (Ev.V_below HV.out hb3)
          have HW2 := Aside0.mk (blk_below HW.out hb3)
          have HO2 := Aside0.mk (Kd.R_below HO.out hb3)
          have HB2 := Aside0.mk (below_step HB.out hb3)
          clear hb3 HV HW HO HB x0 x1 x2 x3 x4 x5 hz8
          have HV := HV2
          have HW := HW2
          have HO := HO2
          have HB := HB2
          clear HV2 HW2 HO2 HB2
          generalize wr.alloc (.cells #[.int .i64 (rd_T81 l0 (i : Int)).f0, .int .i64 (rd_T81 l0 (i : Int)).f1, .bool (rd_T81 l0 (i : Int)).f2.f0, .bool (rd_T81 l0 (i : Int)).f2.f1, .bool (rd_T81 l0 (i : Int)).f2.f2, .bool (rd_T81 l0 (i : Int)).f2.f3] 81 (0, 0)) = w3 at H8 HV HW HO HB ⊢
          generalize wr.heap.size = g8 at H8 ⊢
          obtain ⟨d0, d1, d2, d3, d4, d5⟩ := Ev.cells6 H8.out
          go_cut [5] from 17 to 142 (fun v5 wx => ∃ (e g : Nat) (L : List Int) (c : Int) (vl : Value), v5 = .pointer (some ⟨e, 0, none⟩) ∧ Aside0 (Ev.V wx w.heap.size e g L c) ∧ Aside0 (wx.heap[gw]? = some (.cells #[vl, .int .u16 c] 89 (0, 0))) ∧ Aside0 (Kd.R (Kd.int .u8) 5 wx w.heap.size (fun _ => True) vl L) ∧ Aside0 (Below w.heap.size w wx) ∧ Aside0 (0 ≤ c ∧ c ≤ 65535))
          case first =>
            by_cases q0 : (rd_T81 l0 (i : Int)).f0 = 0
            · go_wp2_with (first
                | (go_at_call 48; (with_reducible refine (Ev.heard_ok HV.out _ _ _ _).mono ?_); rintro r w4 ⟨rfl, hV, hk, hb⟩; have HV2 := Aside0.mk hV; have HO2 := Aside0.mk (Ev.R_keep HV.out HO.out hk hb.size); have HW2 := Aside0.mk (Ev.blk_keep HV.out HW.out (by decide) (by decide) hk); have H82 := Aside0.mk (Ev.blk_keep HV.out H8.out (by decide) (by decide) hk); have HB2 := Aside0.mk (HB.out.trans hb); clear HV HO HW H8 HB; have HV := HV2; have HO := HO2; have HW := HW2; have H8 := H82; have HB := HB2; clear HV2 HO2 HW2 H82 HB2; clear hV hk hb; clear d0 d1 d2 d3 d4 d5; obtain ⟨d0, d1, d2, d3, d4, d5⟩ := Ev.cells6 H8.out)
                | (refine wpList_load_row rfl 89 _ rfl gw rfl 89 _ (0, 0) _ HW.out hu89 rfl Ev.sizeL ?_)
                | (go_at_call 56; refine (bilgeref19_Heard.calls 5 _ _ L c _ _ _ _ _ _ _ (Kd.R_reads' HO.out).2.2 (Kd.R_reads' HO.out).2.1 (Ev.ref_heard hL _ _ _ _)).mono ?_; rintro r w5 ⟨v5n, rfl, ho, hb⟩; have HN := Aside0.mk (Kd.R_lower ho (below_size HB.out)); have HV2 := Aside0.mk (Ev.V_below HV.out hb); have HW2 := Aside0.mk (blk_below HW.out hb); have H82 := Aside0.mk (blk_below H8.out hb); have HB2 := Aside0.mk (below_step HB.out hb); clear HV HW H8 HB; have HV := HV2; have HW := HW2; have H8 := H82; have HB := HB2; clear HV2 HW2 H82 HB2; clear ho hb HO; clear d0 d1 d2 d3 d4 d5; obtain ⟨d0, d1, d2, d3, d4, d5⟩ := Ev.cells6 H8.out)
                | ((with_reducible refine gate_store rfl ?_); refine wpList_store_row rfl 89 _ _ rfl gw #[v5n, .int .u16 c] rfl rfl 89 _ HW.out Ev.sizeL rfl (Ev.one2 HN.out) ?_))
              have HV2 := Aside0.mk (Ev.V_setRow HV.out HW.out (by decide) (by decide) #[v5n, .int .u16 c])
              have HN2 := Aside0.mk (Ev.R_setRow HN.out HW.out (by decide) #[v5n, .int .u16 c])
              have HW2 := Aside0.mk (setRow_heap _ gw _ #[v5n, .int .u16 c] _ _ HW.out)
              have HB2 := Aside0.mk (Ev.below_setRow HB.out HGW.out #[v5n, .int .u16 c])
              go_meet
              case rel => exact ⟨_, _, _, _, _, rfl, HV2, HW2, HN2, HB2, HC⟩
            · by_cases q1 : (rd_T81 l0 (i : Int)).f0 = 1
              · go_wp2_with (first
                  | (go_at_call 49; (with_reducible refine (Ev.said_ok HV.out _ _).mono ?_); rintro r w4 ⟨rfl, hV, hk, hb⟩; have HV2 := Aside0.mk hV; have HO2 := Aside0.mk (Ev.R_keep HV.out HO.out hk hb.size); have HW2 := Aside0.mk (Ev.blk_keep HV.out HW.out (by decide) (by decide) hk); have H82 := Aside0.mk (Ev.blk_keep HV.out H8.out (by decide) (by decide) hk); have HB2 := Aside0.mk (HB.out.trans hb); clear HV HO HW H8 HB; have HV := HV2; have HO := HO2; have HW := HW2; have H8 := H82; have HB := HB2; clear HV2 HO2 HW2 H82 HB2; clear hV hk hb; clear d0 d1 d2 d3 d4 d5; obtain ⟨d0, d1, d2, d3, d4, d5⟩ := Ev.cells6 H8.out)
                  | (refine wpList_load_row rfl 89 _ rfl gw rfl 89 _ (0, 0) _ HW.out hu89 rfl Ev.sizeL ?_)
                  | (go_at_call 57; refine (bilgeref19_Said.calls 5 _ _ L c _ _ _ _ _ (Kd.R_reads' HO.out).2.2 (Kd.R_reads' HO.out).2.1 (Ev.ref_said hL _ _)).mono ?_; rintro r w5 ⟨v5n, rfl, ho, hb⟩; have HN := Aside0.mk (Kd.R_lower ho (below_size HB.out)); have HV2 := Aside0.mk (Ev.V_below HV.out hb); have HW2 := Aside0.mk (blk_below HW.out hb); have H82 := Aside0.mk (blk_below H8.out hb); have HB2 := Aside0.mk (below_step HB.out hb); clear HV HW H8 HB; have HV := HV2; have HW := HW2; have H8 := H82; have HB := HB2; clear HV2 HW2 H82 HB2; clear ho hb HO; clear d0 d1 d2 d3 d4 d5; obtain ⟨d0, d1, d2, d3, d4, d5⟩ := Ev.cells6 H8.out)
                  | ((with_reducible refine gate_store rfl ?_); refine wpList_store_row rfl 89 _ _ rfl gw #[v5n, .int .u16 c] rfl rfl 89 _ HW.out Ev.sizeL rfl (Ev.one2 HN.out) ?_))
                have HV2 := Aside0.mk (Ev.V_setRow HV.out HW.out (by decide) (by decide) #[v5n, .int .u16 c])
                have HN2 := Aside0.mk (Ev.R_setRow HN.out HW.out (by decide) #[v5n, .int .u16 c])
                have HW2 := Aside0.mk (setRow_heap _ gw _ #[v5n, .int .u16 c] _ _ HW.out)
                have HB2 := Aside0.mk (Ev.below_setRow HB.out HGW.out #[v5n, .int .u16 c])
                go_meet
                case rel => exact ⟨_, _, _, _, _, rfl, HV2, HW2, HN2, HB2, HC⟩
              · by_cases q2 : (rd_T81 l0 (i : Int)).f0 = 2
                · go_wp2_with (first
                    | (go_at_call 51; (with_reducible refine (Ev.entered_ok HV.out).mono ?_); rintro r w4 ⟨rfl, hV, hk, hb⟩; have HV2 := Aside0.mk hV; have HO2 := Aside0.mk (Ev.R_keep HV.out HO.out hk hb.size); have HW2 := Aside0.mk (Ev.blk_keep HV.out HW.out (by decide) (by decide) hk); have H82 := Aside0.mk (Ev.blk_keep HV.out H8.out (by decide) (by decide) hk); have HB2 := Aside0.mk (HB.out.trans hb); clear HV HO HW H8 HB; have HV := HV2; have HO := HO2; have HW := HW2; have H8 := H82; have HB := HB2; clear HV2 HO2 HW2 H82 HB2; clear hV hk hb; clear d0 d1 d2 d3 d4 d5; obtain ⟨d0, d1, d2, d3, d4, d5⟩ := Ev.cells6 H8.out)
                    | (refine wpList_load_row rfl 89 _ rfl gw rfl 89 _ (0, 0) _ HW.out hu89 rfl Ev.sizeL ?_)
                    | (go_at_call 58; refine (bilgeref19_Entered.calls _ _ L c _ _ _ (Kd.R_reads' HO.out).2.2 (Kd.R_reads' HO.out).2.1 (Ev.ref_entered hL)).mono ?_; rintro r w5 ⟨v5n, rfl, ho, hb⟩; have HN := Aside0.mk (Kd.R_lower ho (below_size HB.out)); have HV2 := Aside0.mk (Ev.V_below HV.out hb); have HW2 := Aside0.mk (blk_below HW.out hb); have H82 := Aside0.mk (blk_below H8.out hb); have HB2 := Aside0.mk (below_step HB.out hb); clear HV HW H8 HB; have HV := HV2; have HW := HW2; have H8 := H82; have HB := HB2; clear HV2 HW2 H82 HB2; clear ho hb HO; clear d0 d1 d2 d3 d4 d5; obtain ⟨d0, d1, d2, d3, d4, d5⟩ := Ev.cells6 H8.out)
                    | ((with_reducible refine gate_store rfl ?_); refine wpList_store_row rfl 89 _ _ rfl gw #[v5n, .int .u16 c] rfl rfl 89 _ HW.out Ev.sizeL rfl (Ev.one2 HN.out) ?_))
                  have HV2 := Aside0.mk (Ev.V_setRow HV.out HW.out (by decide) (by decide) #[v5n, .int .u16 c])
                  have HN2 := Aside0.mk (Ev.R_setRow HN.out HW.out (by decide) #[v5n, .int .u16 c])
                  have HW2 := Aside0.mk (setRow_heap _ gw _ #[v5n, .int .u16 c] _ _ HW.out)
                  have HB2 := Aside0.mk (Ev.below_setRow HB.out HGW.out #[v5n, .int .u16 c])
                  go_meet
                  case rel => exact ⟨_, _, _, _, _, rfl, HV2, HW2, HN2, HB2, HC⟩
                · by_cases q3 : (rd_T81 l0 (i : Int)).f0 = 3
                  · go_wp2_with (first
                      | (go_at_call 59; (with_reducible refine (Ev.restarted_ok HV.out _).mono ?_); rintro r w4 ⟨rfl, hV, hk, hb⟩; have HV2 := Aside0.mk hV; have HO2 := Aside0.mk (Ev.R_keep HV.out HO.out hk hb.size); have HW2 := Aside0.mk (Ev.blk_keep HV.out HW.out (by decide) (by decide) hk); have H82 := Aside0.mk (Ev.blk_keep HV.out H8.out (by decide) (by decide) hk); have HB2 := Aside0.mk (HB.out.trans hb); clear HV HO HW H8 HB; have HV := HV2; have HO := HO2; have HW := HW2; have H8 := H82; have HB := HB2; clear HV2 HO2 HW2 H82 HB2; clear hV hk hb; clear d0 d1 d2 d3 d4 d5; obtain ⟨d0, d1, d2, d3, d4, d5⟩ := Ev.cells6 H8.out)
                      | (refine wpList_load_row rfl 89 _ rfl gw rfl 89 _ (0, 0) _ HW.out hu89 rfl Ev.sizeL ?_)
                      | (go_at_call 60; refine (bilgeref19_Restarted.calls _ _ L c _ _ _ _ (Kd.R_reads' HO.out).2.2 (Kd.R_reads' HO.out).2.1 (Ev.ref_restarted hL _)).mono ?_; rintro r w5 ⟨v5n, rfl, ho, hb⟩; have HN := Aside0.mk (Kd.R_lower ho (below_size HB.out)); have HV2 := Aside0.mk (Ev.V_below HV.out hb); have HW2 := Aside0.mk (blk_below HW.out hb); have H82 := Aside0.mk (blk_below H8.out hb); have HB2 := Aside0.mk (below_step HB.out hb); clear HV HW H8 HB; have HV := HV2; have HW := HW2; have H8 := H82; have HB := HB2; clear HV2 HW2 H82 HB2; clear ho hb HO; clear d0 d1 d2 d3 d4 d5; obtain ⟨d0, d1, d2, d3, d4, d5⟩ := Ev.cells6 H8.out)
                      | ((with_reducible refine gate_store rfl ?_); refine wpList_store_row rfl 89 _ _ rfl gw #[v5n, .int .u16 0] rfl rfl 89 _ HW.out Ev.sizeL rfl (Ev.one2 HN.out) ?_))
                    have HV2 := Aside0.mk (Ev.V_setRow HV.out HW.out (by decide) (by decide) #[v5n, .int .u16 0])
                    have HN2 := Aside0.mk (Ev.R_setRow HN.out HW.out (by decide) #[v5n, .int .u16 0])
                    have HW2 := Aside0.mk (setRow_heap _ gw _ #[v5n, .int .u16 0] _ _ HW.out)
                    have HB2 := Aside0.mk (Ev.below_setRow HB.out HGW.out #[v5n, .int .u16 0])
                    go_meet
                    case rel => exact ⟨_, _, _, _, _, rfl, HV2, HW2, HN2, HB2, ⟨by omega, by omega⟩⟩
                  · by_cases q4 : (rd_T81 l0 (i : Int)).f0 = 4
                    · go_wp2_with (first
                        | (go_at_call 50; (with_reducible refine (Ev.done_ok HV.out).mono ?_); rintro r w4 ⟨rfl, hV, hk, hb⟩; have HV2 := Aside0.mk hV; have HO2 := Aside0.mk (Ev.R_keep HV.out HO.out hk hb.size); have HW2 := Aside0.mk (Ev.blk_keep HV.out HW.out (by decide) (by decide) hk); have H82 := Aside0.mk (Ev.blk_keep HV.out H8.out (by decide) (by decide) hk); have HB2 := Aside0.mk (HB.out.trans hb); clear HV HO HW H8 HB; have HV := HV2; have HO := HO2; have HW := HW2; have H8 := H82; have HB := HB2; clear HV2 HO2 HW2 H82 HB2; clear hV hk hb; clear d0 d1 d2 d3 d4 d5; obtain ⟨d0, d1, d2, d3, d4, d5⟩ := Ev.cells6 H8.out; have y1 := (blk_cell HW.out 1).trans rfl; have y2 := blk_frozen HW.out 1))
                      have HV2 := Aside0.mk (Ev.V_far HV.out HW.out (by decide) (by decide) 1 (.int .u16 (IntKind.u16.wrap (c + 1))))
                      have HN2 := Aside0.mk (Ev.R_far HO.out HW.out (by decide) 1 (.int .u16 (IntKind.u16.wrap (c + 1))))
                      have HW2 := Aside0.mk (blk_put HW.out 1 (.int .u16 (IntKind.u16.wrap (c + 1))) rfl)
                      have HB2 := Aside0.mk (HB.out.grown (Ring.grown_set _ gw 1 (.int .u16 (IntKind.u16.wrap (c + 1)))) (below_size HB.out) (fun k hk => by cases hk; exact HGW.out))
                      go_meet
                      case rel => exact ⟨_, _, _, _, _, rfl, HV2, HW2, HN2, HB2, ⟨by simp [IntKind.wrap, IntKind.bits, IntKind.signed]; omega⟩⟩
                    · go_wp2_with (first
                        | (go_at_call 61; (with_reducible refine (Ev.clone_ok HV.out).mono ?_); rintro r w4 ⟨e2, g2, rfl, hV, hb⟩; have HC2 := Aside0.mk hV; have HLt := Aside0.mk (Ev.V_lts HV.out); have HV2 := Aside0.mk (Ev.V_below HV.out hb); have HO2 := Aside0.mk (Kd.R_below HO.out hb); have HW2 := Aside0.mk (blk_below HW.out hb); have HB2 := Aside0.mk (below_step HB.out hb); clear HV HO HW HB; have HV := HV2; have HO := HO2; have HW := HW2; have HB := HB2; clear HV2 HO2 HW2 HB2; clear hV hb H8; clear d0 d1 d2 d3 d4 d5)
                        | (go_at_call 50; (with_reducible refine (Ev.done_ok HV.out).mono ?_); rintro r w5 ⟨rfl, hV, hk, hb⟩; have HV2 := Aside0.mk hV; have HC3 := Aside0.mk (Ev.V_keep HC2.out hk (Ev.ne_of HC2.out HLt.out).1 (Ev.ne_of HC2.out HLt.out).2.1 (Ev.ne_of HC2.out HLt.out).2.2.1 (Ev.ne_of HC2.out HLt.out).2.2.2); have HO2 := Aside0.mk (Ev.R_keep HV.out HO.out hk hb.size); have HW2 := Aside0.mk (Ev.blk_keep HV.out HW.out (by decide) (by decide) hk); have HB2 := Aside0.mk (HB.out.trans hb); clear HV HO HW HB HC2; have HV := HV2; have HO := HO2; have HW := HW2; have HB := HB2; have HC2 := HC3; clear HV2 HO2 HW2 HB2 HC3; clear hV hk hb)
                        | (go_at_call 51; (with_reducible refine (Ev.entered_ok HV.out).mono ?_); rintro r w5 ⟨rfl, hV, hk, hb⟩; have HV2 := Aside0.mk hV; have HC3 := Aside0.mk (Ev.V_keep HC2.out hk (Ev.ne_of HC2.out HLt.out).1 (Ev.ne_of HC2.out HLt.out).2.1 (Ev.ne_of HC2.out HLt.out).2.2.1 (Ev.ne_of HC2.out HLt.out).2.2.2); have HO2 := Aside0.mk (Ev.R_keep HV.out HO.out hk hb.size); have HW2 := Aside0.mk (Ev.blk_keep HV.out HW.out (by decide) (by decide) hk); have HB2 := Aside0.mk (HB.out.trans hb); clear HV HO HW HB HC2; have HV := HV2; have HO := HO2; have HW := HW2; have HB := HB2; have HC2 := HC3; clear HV2 HO2 HW2 HB2 HC3; clear hV hk hb))
                      go_meet
                      case rel => exact ⟨_, _, _, _, _, rfl, ⟨Ev.V_lower HC2.out HLt.out.2.2⟩, HW, HO, HB, HC⟩
          case rest =>
            clear H8 HV HW HO HB HC d0 d1 d2 d3 d4 d5 hL
            obtain ⟨e, g, L, c, vl, rfl, HV, HW, HO, HB, HC⟩ := hcut
            have hL := HV.out.len
            obtain ⟨Av, cv, ev⟩ := Kd.R_slice HO.out
            subst ev
            go_wp2
            refine start_ (n := 35) (S := fun w' => w'.cell? ⟨gw, 0, none⟩ = some (.slice Av L.length cv) ∧ w'.cell? ⟨gw, 1, none⟩ = some (.int .u16 c)) (ds := []) #[false, false, false, false, false, false, false, false, false, false, false, false, false, false, false, false, false, false, false, false, false, false, false, false, false, false, false, false, false, false, false, false, false, false, false] (by kernel_rfl) rfl rfl ⟨(blk_cell HW.out 0).trans rfl, (blk_cell HW.out 1).trans rfl⟩ (fun hHeld => ?_)
            have HV2 : Aside0 (Ev.V wc.drew w.heap.size e g L c) := ⟨HV.out⟩
            have HW2 : Aside0 (wc.drew.heap[gw]? = some (.cells #[.slice Av L.length cv, .int .u16 c] 89 (0, 0))) := ⟨HW.out⟩
            have HO2 : Aside0 (Kd.R (Kd.int .u8) 5 wc.drew w.heap.size (fun _ => True) (.slice Av L.length cv) L) := ⟨HO.out⟩
            have HB2 : Aside0 (Below w.heap.size w wc.drew) := ⟨below_drew1 HB.out⟩
            clear HV HW HO HB
            have HV := HV2
            have HW := HW2
            have HO := HO2
            have HB := HB2
            clear HV2 HW2 HO2 HB2
            generalize wc.drew = wd at HV HW HO HB hHeld ⊢
            refine pure_ (i := 0) (N := some 108) (v := ?_) (a' := ?_) #[true, false, false, false, false, false, false, false, false, false, false, false, false, false, false, false, false, false, false, false, false, false, false, false, false, false, false, false, false, false, false, false, false, false, false] rfl rfl (by kernel_rfl) (fun _ _ _ h => h) (Or.inl ⟨by rfl, ?_⟩) ?_ ?_
            rotate_left
            · intro w'
              go_simp
              first | with_reducible rfl | (simp [Instr.field, go_sem]; rfl)
            rotate_left
            · simp only [Act.put, List.setIfInBounds_toArray, List.set_cons_zero, List.set_cons_succ]
              rfl
            refine pure_ (i := 1) (N := some 109) (v := ?_) (a' := ?_) #[true, true, false, false, false, false, false, false, false, false, false, false, false, false, false, false, false, false, false, false, false, false, false, false, false, false, false, false, false, false, false, false, false, false, false] rfl rfl (by kernel_rfl) (fun _ _ _ h => h) (Or.inl ⟨by rfl, ?_⟩) ?_ ?_
            rotate_left
            · intro w'
              go_simp
              first | with_reducible rfl | (simp [Instr.field, go_sem]; rfl)
            rotate_left
            · simp only [Act.put, List.setIfInBounds_toArray, List.set_cons_zero, List.set_cons_succ]
              rfl
            refine pure_ (i := 2) (N := some 110) (v := ?_) (a' := ?_) #[true, true, true, false, false, false, false, false, false, false, false, false, false, false, false, false, false, false, false, false, false, false, false, false, false, false, false, false, false, false, false, false, false, false, false] rfl rfl (by kernel_rfl) (fun _ _ _ h => h) (Or.inl ⟨by rfl, ?_⟩) ?_ ?_
            rotate_left
            · intro w'
              go_simp
              first | with_reducible rfl | (simp [Instr.field, go_sem]; rfl)
            rotate_left
            · simp only [Act.put, List.setIfInBounds_toArray, List.set_cons_zero, List.set_cons_succ]
              rfl
            refine pure_ (i := 3) (N := some 111) (v := ?_) (a' := ?_) #[true, true, true, true, false, false, false, false, false, false, false, false, false, false, false, false, false, false, false, false, false, false, false, false, false, false, false, false, false, false, false, false, false, false, false] rfl rfl (by kernel_rfl) (fun _ _ _ h => h) (Or.inl ⟨by rfl, ?_⟩) ?_ ?_
            rotate_left
            · intro w'
              go_simp
              first | with_reducible rfl | (simp [Instr.field, go_sem]; rfl)
            rotate_left
            · simp only [Act.put, List.setIfInBounds_toArray, List.set_cons_zero, List.set_cons_succ]
              rfl
            refine pure_ (i := 5) (N := some 113) (v := ?_) (a' := ?_) #[true, true, true, true, false, true, false, false, false, false, false, false, false, false, false, false, false, false, false, false, false, false, false, false, false, false, false, false, false, false, false, false, false, false, false] rfl rfl (by kernel_rfl) (fun _ _ _ h => h) (Or.inl ⟨by rfl, ?_⟩) ?_ ?_
            rotate_left
            · intro w'
              go_simp
              first | with_reducible rfl | (simp [Instr.field, go_sem]; rfl)
            rotate_left
            · simp only [Act.put, List.setIfInBounds_toArray, List.set_cons_zero, List.set_cons_succ]
              rfl
            refine take_ (i := 6) (N := some 114) (v := ?_) (a' := ?_) #[true, true, true, true, false, true, true, false, false, false, false, false, false, false, false, false, false, false, false, false, false, false, false, false, false, false, false, false, false, false, false, false, false, false, false] rfl rfl (by kernel_rfl) (fun _ _ _ h => h) (Or.inl ⟨by rfl, ?_⟩) hHeld ?_ ?_
            rotate_left
            · rintro w' ⟨s0, s1⟩
              go_simp
              first | with_reducible rfl | (simp [Instr.field, go_sem]; rfl)
            rotate_left
            · simp only [Act.put, List.setIfInBounds_toArray, List.set_cons_zero, List.set_cons_succ]
              rfl
            refine one_ (i := 4) (N := some 112) #[true, true, true, true, true, true, true, false, false, false, false, false, false, false, false, false, false, false, false, false, false, false, false, false, false, false, false, false, false, false, false, false, false, false, false] rfl rfl (by kernel_rfl) (by decide) (fun K hK => ?_)
            refine goes_ Try.func55 (by kernel_rfl) rfl #[.pointer (some ⟨e, 0, none⟩)] (by rfl) rfl rfl (by (try simp only [List.map_toArray, List.map_cons, List.map_nil]); first | done | rfl) ?_
            refine (Ev.count_ok HV.out).mono ?_
            rintro r w6 ⟨rfl, hb⟩
            refine ⟨_, rfl, ?_⟩
            have HV2 := Aside0.mk (Ev.V_below HV.out hb)
            have HW2 := Aside0.mk (blk_below HW.out hb)
            have HO2 := Aside0.mk (Kd.R_below HO.out hb)
            have HB2 := Aside0.mk (below_step HB.out hb)
            clear HV HW HO HB
            have HV := HV2
            have HW := HW2
            have HO := HO2
            have HB := HB2
            clear HV2 HW2 HO2 HB2
            refine hK.out _ _ ⟨(blk_cell HW.out 0).trans rfl, (blk_cell HW.out 1).trans rfl⟩ (fun hHeld => ?_)
            clear hK K hb
            refine norm_ (a' := ?_) ?_ ?_
            rotate_left
            · show Act.put _ (some 112) _ = _
              simp only [Act.put, List.setIfInBounds_toArray, List.set_cons_zero, List.set_cons_succ]
              rfl
            refine pure_ (i := 7) (N := some 115) (v := ?_) (a' := ?_) #[true, true, true, true, true, true, true, true, false, false, false, false, false, false, false, false, false, false, false, false, false, false, false, false, false, false, false, false, false, false, false, false, false, false, false] rfl rfl (by kernel_rfl) (fun _ _ _ h => h) (Or.inl ⟨by rfl, ?_⟩) ?_ ?_
            rotate_left
            · intro w'
              go_simp
              first | with_reducible rfl | (simp [Instr.field, go_sem]; rfl)
            rotate_left
            · simp only [Act.put, List.setIfInBounds_toArray, List.set_cons_zero, List.set_cons_succ]
              rfl
            refine pure_ (i := 8) (N := some 116) (v := ?_) (a' := ?_) #[true, true, true, true, true, true, true, true, true, false, false, false, false, false, false, false, false, false, false, false, false, false, false, false, false, false, false, false, false, false, false, false, false, false, false] rfl rfl (by kernel_rfl) (fun _ _ _ h => h) (Or.inl ⟨by rfl, ?_⟩) ?_ ?_
            rotate_left
            · intro w'
              go_simp
              first | with_reducible rfl | (simp [Instr.field, go_sem]; rfl)
            rotate_left
            · simp only [Act.put, List.setIfInBounds_toArray, List.set_cons_zero, List.set_cons_succ]
              rfl
            refine pure_ (i := 9) (N := some 117) (v := ?_) (a' := ?_) #[true, true, true, true, true, true, true, true, true, true, false, false, false, false, false, false, false, false, false, false, false, false, false, false, false, false, false, false, false, false, false, false, false, false, false] rfl rfl (by kernel_rfl) (fun _ _ _ h => h) (Or.inl ⟨by rfl, ?_⟩) ?_ ?_
            rotate_left
            · intro w'
              go_simp
              first | with_reducible rfl | (simp [Instr.field, go_sem]; rfl)
            rotate_left
            · simp only [Act.put, List.setIfInBounds_toArray, List.set_cons_zero, List.set_cons_succ]
              rfl
            refine pure_ (i := 10) (N := some 118) (v := ?_) (a' := ?_) #[true, true, true, true, true, true, true, true, true, true, true, false, false, false, false, false, false, false, false, false, false, false, false, false, false, false, false, false, false, false, false, false, false, false, false] rfl rfl (by kernel_rfl) (fun _ _ _ h => h) (Or.inl ⟨by rfl, ?_⟩) ?_ ?_
            rotate_left
            · intro w'
              go_simp
              first | with_reducible rfl | (simp [Instr.field, go_sem]; rfl)
            rotate_left
            · simp only [Act.put, List.setIfInBounds_toArray, List.set_cons_zero, List.set_cons_succ]
              rfl
            refine pure_ (i := 12) (N := some 120) (v := ?_) (a' := ?_) #[true, true, true, true, true, true, true, true, true, true, true, false, true, false, false, false, false, false, false, false, false, false, false, false, false, false, false, false, false, false, false, false, false, false, false] rfl rfl (by kernel_rfl) (fun _ _ _ h => h) (Or.inl ⟨by rfl, ?_⟩) ?_ ?_
            rotate_left
            · intro w'
              go_simp
              first | with_reducible rfl | (simp [Instr.field, go_sem]; rfl)
            rotate_left
            · simp only [Act.put, List.setIfInBounds_toArray, List.set_cons_zero, List.set_cons_succ]
              rfl
            refine take_ (i := 13) (N := some 121) (v := ?_) (a' := ?_) #[true, true, true, true, true, true, true, true, true, true, true, false, true, true, false, false, false, false, false, false, false, false, false, false, false, false, false, false, false, false, false, false, false, false, false] rfl rfl (by kernel_rfl) (fun _ _ _ h => h) (Or.inl ⟨by rfl, ?_⟩) hHeld ?_ ?_
            rotate_left
            · rintro w' ⟨s0, s1⟩
              go_simp
              first | with_reducible rfl | (simp [Instr.field, go_sem]; rfl)
            rotate_left
            · simp only [Act.put, List.setIfInBounds_toArray, List.set_cons_zero, List.set_cons_succ]
              rfl
            refine one_ (i := 11) (N := some 119) #[true, true, true, true, true, true, true, true, true, true, true, true, true, true, false, false, false, false, false, false, false, false, false, false, false, false, false, false, false, false, false, false, false, false, false] rfl rfl (by kernel_rfl) (by decide) (fun K hK => ?_)
            refine goes_ Try.func47 (by kernel_rfl) rfl #[.pointer (some ⟨e, 0, none⟩)] (by rfl) rfl rfl (by (try simp only [List.map_toArray, List.map_cons, List.map_nil]); first | done | rfl) ?_
            refine (Ev.list_ok HV.out).mono ?_
            rintro r w6 ⟨v1, rfl, ho, hb⟩
            refine ⟨_, rfl, ?_⟩
            obtain ⟨Aa, Aac, Aae⟩ := Kd.R_slice ho
            subst Aae
            have H1 := Aside0.mk (Kd.R_lower ho (below_size HB.out))
            clear ho
            have HV2 := Aside0.mk (Ev.V_below HV.out hb)
            have HW2 := Aside0.mk (blk_below HW.out hb)
            have HO2 := Aside0.mk (Kd.R_below HO.out hb)
            have HB2 := Aside0.mk (below_step HB.out hb)
            clear HV HW HO HB
            have HV := HV2
            have HW := HW2
            have HO := HO2
            have HB := HB2
            clear HV2 HW2 HO2 HB2
            refine hK.out _ _ ⟨(blk_cell HW.out 0).trans rfl, (blk_cell HW.out 1).trans rfl⟩ (fun hHeld => ?_)
            clear hK K hb
            refine norm_ (a' := ?_) ?_ ?_
            rotate_left
            · show Act.put _ (some 119) _ = _
              simp only [Act.put, List.setIfInBounds_toArray, List.set_cons_zero, List.set_cons_succ]
              rfl
            refine one_ (i := 14) (N := some 122) #[true, true, true, true, true, true, true, true, true, true, true, true, true, true, true, false, false, false, false, false, false, false, false, false, false, false, false, false, false, false, false, false, false, false, false] rfl rfl (by kernel_rfl) (by decide) (fun K hK => ?_)
            refine goes_ Try.func18 (by kernel_rfl) rfl #[.slice Aa (L).length Aac, .slice Av (L).length cv] (by rfl) rfl rfl (by (try simp only [List.map_toArray, List.map_cons, List.map_nil]); first | done | rfl) ?_
            refine (Ring.bytes_same H1.out HO.out (by omega)).mono ?_
            rintro r w6 ⟨rfl, hb⟩
            refine ⟨_, rfl, ?_⟩
            have HV2 := Aside0.mk (Ev.V_below HV.out hb)
            have HW2 := Aside0.mk (blk_below HW.out hb)
            have HO2 := Aside0.mk (Kd.R_below HO.out hb)
            have HB2 := Aside0.mk (below_step HB.out hb)
            clear HV HW HO HB
            have HV := HV2
            have HW := HW2
            have HO := HO2
            have HB := HB2
            clear HV2 HW2 HO2 HB2
            refine hK.out _ _ ⟨(blk_cell HW.out 0).trans rfl, (blk_cell HW.out 1).trans rfl⟩ (fun hHeld => ?_)
            clear hK K hb
            refine norm_ (a' := ?_) ?_ ?_
            rotate_left
            · show Act.put _ (some 122) _ = _
              simp only [Act.put, List.setIfInBounds_toArray, List.set_cons_zero, List.set_cons_succ]
              rfl
            refine pure_ (i := 15) (N := some 123) (v := ?_) (a' := ?_) #[true, true, true, true, true, true, true, true, true, true, true, true, true, true, true, true, false, false, false, false, false, false, false, false, false, false, false, false, false, false, false, false, false, false, false] rfl rfl (by kernel_rfl) (fun _ _ _ h => h) (Or.inl ⟨by rfl, ?_⟩) ?_ ?_
            rotate_left
            · intro w'
              go_simp
              first | with_reducible rfl | (simp [Instr.field, go_sem]; rfl)
            rotate_left
            · simp only [Act.put, List.setIfInBounds_toArray, List.set_cons_zero, List.set_cons_succ]
              rfl
            refine pure_ (i := 16) (N := some 124) (v := ?_) (a' := ?_) #[true, true, true, true, true, true, true, true, true, true, true, true, true, true, true, true, true, false, false, false, false, false, false, false, false, false, false, false, false, false, false, false, false, false, false] rfl rfl (by kernel_rfl) (fun _ _ _ h => h) (Or.inl ⟨by rfl, ?_⟩) ?_ ?_
            rotate_left
            · intro w'
              go_simp
              first | with_reducible rfl | (simp [Instr.field, go_sem]; rfl)
            rotate_left
            · simp only [Act.put, List.setIfInBounds_toArray, List.set_cons_zero, List.set_cons_succ]
              rfl
            refine pure_ (i := 17) (N := some 125) (v := ?_) (a' := ?_) #[true, true, true, true, true, true, true, true, true, true, true, true, true, true, true, true, true, true, false, false, false, false, false, false, false, false, false, false, false, false, false, false, false, false, false] rfl rfl (by kernel_rfl) (fun _ _ _ h => h) (Or.inl ⟨by rfl, ?_⟩) ?_ ?_
            rotate_left
            · intro w'
              go_simp
              first | with_reducible rfl | (simp [Instr.field, go_sem]; rfl)
            rotate_left
            · simp only [Act.put, List.setIfInBounds_toArray, List.set_cons_zero, List.set_cons_succ]
              rfl
            refine pure_ (i := 18) (N := some 126) (v := ?_) (a' := ?_) #[true, true, true, true, true, true, true, true, true, true, true, true, true, true, true, true, true, true, true, false, false, false, false, false, false, false, false, false, false, false, false, false, false, false, false] rfl rfl (by kernel_rfl) (fun _ _ _ h => h) (Or.inl ⟨by rfl, ?_⟩) ?_ ?_
            rotate_left
            · intro w'
              go_simp
              first | with_reducible rfl | (simp [Instr.field, go_sem]; rfl)
            rotate_left
            · simp only [Act.put, List.setIfInBounds_toArray, List.set_cons_zero, List.set_cons_succ]
              rfl
            refine take_ (i := 20) (N := some 128) (v := ?_) (a' := ?_) #[true, true, true, true, true, true, true, true, true, true, true, true, true, true, true, true, true, true, true, false, true, false, false, false, false, false, false, false, false, false, false, false, false, false, false] rfl rfl (by kernel_rfl) (fun _ _ _ h => h) (Or.inl ⟨by rfl, ?_⟩) hHeld ?_ ?_
            rotate_left
            · rintro w' ⟨s0, s1⟩
              go_simp
              first | with_reducible rfl | (simp [Instr.field, go_sem]; rfl)
            rotate_left
            · simp only [Act.put, List.setIfInBounds_toArray, List.set_cons_zero, List.set_cons_succ]
              rfl
            refine one_ (i := 19) (N := some 127) #[true, true, true, true, true, true, true, true, true, true, true, true, true, true, true, true, true, true, true, true, true, false, false, false, false, false, false, false, false, false, false, false, false, false, false] rfl rfl (by kernel_rfl) (by decide) (fun K hK => ?_)
            refine goes_ Try.func53 (by kernel_rfl) rfl #[.pointer (some ⟨e, 0, none⟩)] (by rfl) rfl rfl (by (try simp only [List.map_toArray, List.map_cons, List.map_nil]); first | done | rfl) ?_
            refine (Ev.short_ok HV.out).mono ?_
            rintro r w6 ⟨v1, rfl, ho, hb⟩
            refine ⟨_, rfl, ?_⟩
            obtain ⟨Ab, Abc, Abe⟩ := Kd.R_slice ho
            subst Abe
            have H2 := Aside0.mk (Kd.R_lower ho (below_size HB.out))
            clear ho
            have HV2 := Aside0.mk (Ev.V_below HV.out hb)
            have HW2 := Aside0.mk (blk_below HW.out hb)
            have HO2 := Aside0.mk (Kd.R_below HO.out hb)
            have HB2 := Aside0.mk (below_step HB.out hb)
            clear HV HW HO HB
            have HV := HV2
            have HW := HW2
            have HO := HO2
            have HB := HB2
            clear HV2 HW2 HO2 HB2
            refine hK.out _ _ ⟨(blk_cell HW.out 0).trans rfl, (blk_cell HW.out 1).trans rfl⟩ (fun hHeld => ?_)
            clear hK K hb
            refine norm_ (a' := ?_) ?_ ?_
            rotate_left
            · show Act.put _ (some 127) _ = _
              simp only [Act.put, List.setIfInBounds_toArray, List.set_cons_zero, List.set_cons_succ]
              rfl
            refine one_ (i := 21) (N := some 129) #[true, true, true, true, true, true, true, true, true, true, true, true, true, true, true, true, true, true, true, true, true, true, false, false, false, false, false, false, false, false, false, false, false, false, false] rfl rfl (by kernel_rfl) (by decide) (fun K hK => ?_)
            refine goes_ Try.func62 (by kernel_rfl) rfl #[.agg #[.slice Av L.length cv, .int .u16 c]] (by rfl) rfl rfl (by (try simp only [List.map_toArray, List.map_cons, List.map_nil]); first | done | rfl) ?_
            refine (bilgeref19_Short.calls 4 _ _ L c _ _ (Kd.R_reads' HO.out).2.2 (Kd.R_reads' HO.out).2.1 (Ev.ref_short HC.out)).mono ?_
            rintro r w6 ⟨v1, rfl, ho, hb⟩
            refine ⟨_, rfl, ?_⟩
            obtain ⟨Ad, Adc, Ade⟩ := Kd.R_slice ho
            subst Ade
            have H3 := Aside0.mk (Kd.R_lower ho (below_size HB.out))
            clear ho
            have HV2 := Aside0.mk (Ev.V_below HV.out hb)
            have HW2 := Aside0.mk (blk_below HW.out hb)
            have HO2 := Aside0.mk (Kd.R_below HO.out hb)
            have HB2 := Aside0.mk (below_step HB.out hb)
            have H22 := Aside0.mk (Kd.R_below H2.out hb)
            clear HV HW HO HB H2
            have HV := HV2
            have HW := HW2
            have HO := HO2
            have HB := HB2
            have H2 := H22
            clear HV2 HW2 HO2 HB2 H22
            refine hK.out _ _ ⟨(blk_cell HW.out 0).trans rfl, (blk_cell HW.out 1).trans rfl⟩ (fun hHeld => ?_)
            clear hK K hb
            refine norm_ (a' := ?_) ?_ ?_
            rotate_left
            · show Act.put _ (some 129) _ = _
              simp only [Act.put, List.setIfInBounds_toArray, List.set_cons_zero, List.set_cons_succ]
              rfl
            refine one_ (i := 22) (N := some 130) #[true, true, true, true, true, true, true, true, true, true, true, true, true, true, true, true, true, true, true, true, true, true, true, false, false, false, false, false, false, false, false, false, false, false, false] rfl rfl (by kernel_rfl) (by decide) (fun K hK => ?_)
            refine goes_ Try.func18 (by kernel_rfl) rfl #[.slice Ab (Ev.short c).length Abc, .slice Ad (Ev.short c).length Adc] (by rfl) rfl rfl (by (try simp only [List.map_toArray, List.map_cons, List.map_nil]); first | done | rfl) ?_
            refine (Ring.bytes_same H2.out H3.out (by rw [Ev.short_len]; omega)).mono ?_
            rintro r w6 ⟨rfl, hb⟩
            refine ⟨_, rfl, ?_⟩
            have HV2 := Aside0.mk (Ev.V_below HV.out hb)
            have HW2 := Aside0.mk (blk_below HW.out hb)
            have HO2 := Aside0.mk (Kd.R_below HO.out hb)
            have HB2 := Aside0.mk (below_step HB.out hb)
            clear HV HW HO HB
            have HV := HV2
            have HW := HW2
            have HO := HO2
            have HB := HB2
            clear HV2 HW2 HO2 HB2
            refine hK.out _ _ ⟨(blk_cell HW.out 0).trans rfl, (blk_cell HW.out 1).trans rfl⟩ (fun hHeld => ?_)
            clear hK K hb
            refine norm_ (a' := ?_) ?_ ?_
            rotate_left
            · show Act.put _ (some 130) _ = _
              simp only [Act.put, List.setIfInBounds_toArray, List.set_cons_zero, List.set_cons_succ]
              rfl
            refine pure_ (i := 23) (N := some 131) (v := ?_) (a' := ?_) #[true, true, true, true, true, true, true, true, true, true, true, true, true, true, true, true, true, true, true, true, true, true, true, true, false, false, false, false, false, false, false, false, false, false, false] rfl rfl (by kernel_rfl) (fun _ _ _ h => h) (Or.inl ⟨by rfl, ?_⟩) ?_ ?_
            rotate_left
            · intro w'
              go_simp
              first | with_reducible rfl | (simp [Instr.field, go_sem]; rfl)
            rotate_left
            · simp only [Act.put, List.setIfInBounds_toArray, List.set_cons_zero, List.set_cons_succ]
              rfl
            refine pure_ (i := 24) (N := some 132) (v := ?_) (a' := ?_) #[true, true, true, true, true, true, true, true, true, true, true, true, true, true, true, true, true, true, true, true, true, true, true, true, true, false, false, false, false, false, false, false, false, false, false] rfl rfl (by kernel_rfl) (fun _ _ _ h => h) (Or.inl ⟨by rfl, ?_⟩) ?_ ?_
            rotate_left
            · intro w'
              go_simp
              first | with_reducible rfl | (simp [Instr.field, go_sem]; rfl)
            rotate_left
            · simp only [Act.put, List.setIfInBounds_toArray, List.set_cons_zero, List.set_cons_succ]
              rfl
            refine pure_ (i := 25) (N := some 133) (v := ?_) (a' := ?_) #[true, true, true, true, true, true, true, true, true, true, true, true, true, true, true, true, true, true, true, true, true, true, true, true, true, true, false, false, false, false, false, false, false, false, false] rfl rfl (by kernel_rfl) (fun _ _ _ h => h) (Or.inl ⟨by rfl, ?_⟩) ?_ ?_
            rotate_left
            · intro w'
              go_simp
              first | with_reducible rfl | (simp [Instr.field, go_sem]; rfl)
            rotate_left
            · simp only [Act.put, List.setIfInBounds_toArray, List.set_cons_zero, List.set_cons_succ]
              rfl
            refine pure_ (i := 26) (N := some 134) (v := ?_) (a' := ?_) #[true, true, true, true, true, true, true, true, true, true, true, true, true, true, true, true, true, true, true, true, true, true, true, true, true, true, true, false, false, false, false, false, false, false, false] rfl rfl (by kernel_rfl) (fun _ _ _ h => h) (Or.inl ⟨by rfl, ?_⟩) ?_ ?_
            rotate_left
            · intro w'
              go_simp
              first | with_reducible rfl | (simp [Instr.field, go_sem]; rfl)
            rotate_left
            · simp only [Act.put, List.setIfInBounds_toArray, List.set_cons_zero, List.set_cons_succ]
              rfl
            refine pure_ (i := 27) (N := some 135) (v := ?_) (a' := ?_) #[true, true, true, true, true, true, true, true, true, true, true, true, true, true, true, true, true, true, true, true, true, true, true, true, true, true, true, true, false, false, false, false, false, false, false] rfl rfl (by kernel_rfl) (fun _ _ _ h => h) (Or.inl ⟨by rfl, ?_⟩) ?_ ?_
            rotate_left
            · intro w'
              go_simp
              first | with_reducible rfl | (simp [Instr.field, go_sem]; rfl)
            rotate_left
            · simp only [Act.put, List.setIfInBounds_toArray, List.set_cons_zero, List.set_cons_succ]
              rfl
            refine take_ (i := 29) (N := some 137) (v := ?_) (a' := ?_) #[true, true, true, true, true, true, true, true, true, true, true, true, true, true, true, true, true, true, true, true, true, true, true, true, true, true, true, true, false, true, false, false, false, false, false] rfl rfl (by kernel_rfl) (fun _ _ _ h => h) (Or.inl ⟨by rfl, ?_⟩) hHeld ?_ ?_
            rotate_left
            · rintro w' ⟨s0, s1⟩
              go_simp
              first | with_reducible rfl | (simp [Instr.field, go_sem]; rfl)
            rotate_left
            · simp only [Act.put, List.setIfInBounds_toArray, List.set_cons_zero, List.set_cons_succ]
              rfl
            refine pure_ (i := 30) (N := some 138) (v := ?_) (a' := ?_) #[true, true, true, true, true, true, true, true, true, true, true, true, true, true, true, true, true, true, true, true, true, true, true, true, true, true, true, true, false, true, true, false, false, false, false] rfl rfl (by kernel_rfl) (fun _ _ _ h => h) (Or.inl ⟨by rfl, ?_⟩) ?_ ?_
            rotate_left
            · intro w'
              go_simp
              first | with_reducible rfl | (simp [Instr.field, go_sem]; rfl)
            rotate_left
            · simp only [Act.put, List.setIfInBounds_toArray, List.set_cons_zero, List.set_cons_succ]
              rfl
            refine one_ (i := 28) (N := some 136) #[true, true, true, true, true, true, true, true, true, true, true, true, true, true, true, true, true, true, true, true, true, true, true, true, true, true, true, true, true, true, true, false, false, false, false] rfl rfl (by kernel_rfl) (by decide) (fun K hK => ?_)
            refine goes_ Try.func52 (by kernel_rfl) rfl #[.pointer (some ⟨e, 0, none⟩), .int .u16 a1] (by rfl) rfl rfl (by (try simp only [List.map_toArray, List.map_cons, List.map_nil]); first | done | rfl) ?_
            refine (Ev.long_ok HV.out a1).mono ?_
            rintro r w6 ⟨v1, rfl, ho, hb⟩
            refine ⟨_, rfl, ?_⟩
            obtain ⟨Ae, Aec, Aee⟩ := Kd.R_slice ho
            subst Aee
            have H4 := Aside0.mk (Kd.R_lower ho (below_size HB.out))
            clear ho
            have HV2 := Aside0.mk (Ev.V_below HV.out hb)
            have HW2 := Aside0.mk (blk_below HW.out hb)
            have HO2 := Aside0.mk (Kd.R_below HO.out hb)
            have HB2 := Aside0.mk (below_step HB.out hb)
            clear HV HW HO HB
            have HV := HV2
            have HW := HW2
            have HO := HO2
            have HB := HB2
            clear HV2 HW2 HO2 HB2
            refine hK.out _ _ ⟨(blk_cell HW.out 0).trans rfl, (blk_cell HW.out 1).trans rfl⟩ (fun hHeld => ?_)
            clear hK K hb
            refine norm_ (a' := ?_) ?_ ?_
            rotate_left
            · show Act.put _ (some 136) _ = _
              simp only [Act.put, List.setIfInBounds_toArray, List.set_cons_zero, List.set_cons_succ]
              rfl
            refine one_ (i := 31) (N := some 139) #[true, true, true, true, true, true, true, true, true, true, true, true, true, true, true, true, true, true, true, true, true, true, true, true, true, true, true, true, true, true, true, true, false, false, false] rfl rfl (by kernel_rfl) (by decide) (fun K hK => ?_)
            refine goes_ Try.func63 (by kernel_rfl) rfl #[.agg #[.slice Av L.length cv, .int .u16 c], .int .u16 a1] (by rfl) rfl rfl (by (try simp only [List.map_toArray, List.map_cons, List.map_nil]); first | done | rfl) ?_
            refine (bilgeref19_Long.calls 5 _ _ L c a1 _ _ (Kd.R_reads' HO.out).2.2 (Kd.R_reads' HO.out).2.1 (Ev.ref_long hL HC.out ⟨k2, k3⟩)).mono ?_
            rintro r w6 ⟨v1, rfl, ho, hb⟩
            refine ⟨_, rfl, ?_⟩
            obtain ⟨Af, Afc, Afe⟩ := Kd.R_slice ho
            subst Afe
            have H5 := Aside0.mk (Kd.R_lower ho (below_size HB.out))
            clear ho
            have HV2 := Aside0.mk (Ev.V_below HV.out hb)
            have HW2 := Aside0.mk (blk_below HW.out hb)
            have HO2 := Aside0.mk (Kd.R_below HO.out hb)
            have HB2 := Aside0.mk (below_step HB.out hb)
            have H42 := Aside0.mk (Kd.R_below H4.out hb)
            clear HV HW HO HB H4
            have HV := HV2
            have HW := HW2
            have HO := HO2
            have HB := HB2
            have H4 := H42
            clear HV2 HW2 HO2 HB2 H42
            refine hK.out _ _ ⟨(blk_cell HW.out 0).trans rfl, (blk_cell HW.out 1).trans rfl⟩ (fun hHeld => ?_)
            clear hK K hb
            refine norm_ (a' := ?_) ?_ ?_
            rotate_left
            · show Act.put _ (some 139) _ = _
              simp only [Act.put, List.setIfInBounds_toArray, List.set_cons_zero, List.set_cons_succ]
              rfl
            refine one_ (i := 32) (N := some 140) #[true, true, true, true, true, true, true, true, true, true, true, true, true, true, true, true, true, true, true, true, true, true, true, true, true, true, true, true, true, true, true, true, true, false, false] rfl rfl (by kernel_rfl) (by decide) (fun K hK => ?_)
            refine goes_ Try.func18 (by kernel_rfl) rfl #[.slice Ae (Ev.long L c a1).length Aec, .slice Af (Ev.long L c a1).length Afc] (by rfl) rfl rfl (by (try simp only [List.map_toArray, List.map_cons, List.map_nil]); first | done | rfl) ?_
            refine (Ring.bytes_same H4.out H5.out (by rw [Ev.long_len]; omega)).mono ?_
            rintro r w6 ⟨rfl, hb⟩
            refine ⟨_, rfl, ?_⟩
            have HV2 := Aside0.mk (Ev.V_below HV.out hb)
            have HW2 := Aside0.mk (blk_below HW.out hb)
            have HO2 := Aside0.mk (Kd.R_below HO.out hb)
            have HB2 := Aside0.mk (below_step HB.out hb)
            clear HV HW HO HB
            have HV := HV2
            have HW := HW2
            have HO := HO2
            have HB := HB2
            clear HV2 HW2 HO2 HB2
            refine hK.out _ _ ⟨(blk_cell HW.out 0).trans rfl, (blk_cell HW.out 1).trans rfl⟩ (fun hHeld => ?_)
            clear hK K hb
            refine norm_ (a' := ?_) ?_ ?_
            rotate_left
            · show Act.put _ (some 140) _ = _
              simp only [Act.put, List.setIfInBounds_toArray, List.set_cons_zero, List.set_cons_succ]
              rfl
            refine pure_ (i := 33) (N := some 141) (v := ?_) (a' := ?_) #[true, true, true, true, true, true, true, true, true, true, true, true, true, true, true, true, true, true, true, true, true, true, true, true, true, true, true, true, true, true, true, true, true, true, false] rfl rfl (by kernel_rfl) (fun _ _ _ h => h) (Or.inl ⟨by rfl, ?_⟩) ?_ ?_
            rotate_left
            · intro w'
              go_simp
              first | with_reducible rfl | (simp [Instr.field, go_sem]; rfl)
            rotate_left
            · simp only [Act.put, List.setIfInBounds_toArray, List.set_cons_zero, List.set_cons_succ]
              rfl
            refine pure_ (i := 34) (N := some 142) (v := ?_) (a' := ?_) #[true, true, true, true, true, true, true, true, true, true, true, true, true, true, true, true, true, true, true, true, true, true, true, true, true, true, true, true, true, true, true, true, true, true, true] rfl rfl (by kernel_rfl) (fun _ _ _ h => h) (Or.inl ⟨by rfl, ?_⟩) ?_ ?_
            rotate_left
            · intro w'
              go_simp
              first | with_reducible rfl | (simp [Instr.field, go_sem]; rfl)
            rotate_left
            · simp only [Act.put, List.setIfInBounds_toArray, List.set_cons_zero, List.set_cons_succ]
              rfl
            refine done_ (by kernel_rfl) ?_
            go_wp2
            go_roundw
            case rel => exact ⟨i + 1, e, g, L, c, _, by omega, rfl, rfl, HV, HW, HO, HB, HC⟩
            case measure => simp [intOf]; omega
        · go_wp2_with (first | (go_at_call 45; (with_reducible refine Ev.sure.mono ?_); rintro e w1 ⟨rfl, hb⟩))
          go_ret
          exact ⟨rfl, below_step HB.out hb⟩
  · rw [if_neg hc] at h
    cases h

/-- THE ONE PURE STATEMENT of bilgelaw19_EventDoes: yours. -/
def bilgelaw19_EventDoes.Pure : Prop := ∀ (x0 : List (S81)) (x1 : Int), (x0.length ≤ maxLen ∧ x0.length * 24 ≤ 140737488351232 ∧ ∀ y0 ∈ x0, ((Lit.int .i64 y0.f0).wf = true ∧ (Lit.int .i64 y0.f1).wf = true ∧ (True ∧ True ∧ True ∧ True))) → (Lit.int .u16 x1).wf = true → bilgelaw19_EventDoes.f x0 x1 = some true

end Go.Proofs.Ytnaedmakkefdfaa.P
