-- Written by the session's own turn of the kit's print program (wip/patch_print.py). Not trusted: Lean checks it.
import Derived.Test.YtnaedmakkefdfaaPx0
import Derived.Test.YtnaedmakkefdfaaPx1
import Derived.Test.YtnaedmakkefdfaaPx4
namespace Go.Proofs.Ytnaedmakkefdfaa.P
open Go.RowKit Go.Proofs.YtnaedmakkefdfaaW.PrintWords Go.Proofs.YtnaedmakkefdfaaW.PrintLast Go.Proofs.YtnaedmakkefdfaaW.PrintMore
attribute [local go_sem] max2_int min2_int max_two min_two max_three min_three max_four min_four   -- for this text's walks alone
set_option linter.unusedVariables false
set_option linter.unusedSimpArgs false

/-! ### bilgelaw19_EventLong: function 12 -/
def bilgelaw19_EventLong.f (l0 : List S81) (a1 : Int) : Option Bool := if l0.length ≤ 281474976710656 ∧ 0 ≤ a1 ∧ a1 ≤ 65535 then some true else none
theorem Ev.bsq {x : Int} (h : 0 ≤ x ∧ x ≤ 65535) : word_Put.bs x = [(IntKind.u16.wrap (Int.tdiv x 256)) % 256, (Int.tmod x 256) % 256] := by
  have e1 : Go.bits .and .u16 x 255 = x % 256 := bits_mask .u16 16 (by decide) (fun n h0 h1 => by simp [IntKind.wrap, IntKind.bits, IntKind.signed]; omega) 8 (by decide) x h.1 (by omega)
  have e2 : Int.tdiv x 256 = x / 256 := Int.tdiv_eq_ediv_of_nonneg h.1
  have e3 : Int.tmod x 256 = x % 256 := Int.tmod_eq_emod_of_nonneg h.1
  unfold word_Put.bs
  rw [e1, e2, e3]
  simp [IntKind.wrap, IntKind.bits, IntKind.signed]
theorem Ev.rp1 {c : Int} (h : 0 ≤ c ∧ c ≤ 65535) : bilgeref01_Put.f 3 [c] = some (word_Put.bs c) := by
  have y := Ev.bsq h
  rw [y]
  simp [bilgeref01_Put.f, bilgeref01_Put.l0, rd, show wrap64 (0 + 1) = 1 by decide +kernel, show wrap64 1 = 1 by decide +kernel]
theorem Ring.bytesC {w : World} {A B : Option Addr} {n c d : Nat} {l : List Int} (h1 : (Kd.int .u8).C w A l.length l) (h2 : (Kd.int .u8).C w B l.length l) (hn : l.length = n) (hc : n ≤ c) (hd : n ≤ d) (hb : n ≤ 4611686018427387904) :
    Calls Try.prog 18 #[.slice A n c, .slice B n d] w fun e w' => e = .returned (.bool true) ∧ Below w.heap.size w w' := by
  subst hn
  refine (bilgeref01_Bytes.calls _ _ _ l _ _ l _ w h1 hc h2 hd (Ring.bytes_eq (by omega))).mono ?_
  rintro e w' ⟨rfl, hd⟩
  exact ⟨by simp, hd.below⟩
theorem Ev.addr (g i : Nat) : (some (⟨g, 0, none⟩ : Addr)).map (·.add (i * 1)) = some ⟨g, i, none⟩ := by
  simp only [Option.map_some, Nat.mul_one, Addr.add]
  by_cases h : i = 0
  · simp [h]
  · simp [h]
theorem Ev.first {w : World} {b : Nat} {o : Nat → Prop} {g n cap : Nat} {L : List Int} {c m : Int} (h : Kd.R (Kd.int .u8) 5 w b o (.slice (some ⟨g, 0, none⟩) n cap) (Ev.long L c m)) (h2 : (6 + (L.length : Int)) % 256 = 6 + (L.length : Int)) : w.cell? ⟨g, 0, none⟩ = some (.int .u8 (6 + (L.length : Int))) := by
  have hn := (Kd.R_reads' h).1
  have h3 := (Kd.R_celln 0 h 0 (by decide) (by rw [hn, Ev.long_len]; omega)).1
  rw [← h2]
  exact h3
theorem Ev.cut {w : World} {g cap : Nat} {B : List Int} (i j : Nat) (h : (Kd.int .u8).C w (some ⟨g, 0, none⟩) B.length B) (hc : B.length ≤ cap) (hi : i ≤ j) (hj : j ≤ B.length) (hn : cap ≠ i) : (Kd.int .u8).C w (some ⟨g, i, none⟩) ((B.take j).drop i).length ((B.take j).drop i) := by
  have h1 := Kd.C_take h hj
  have h2 := Kd.C_drop (c := cap) h1 (m := i) (by rw [List.length_take]; omega) (by rw [List.length_take]; omega)
  rw [if_neg hn] at h2
  have e := Ev.addr g i
  rwa [show (Option.map (fun x => x.add (i * (Kd.int IntKind.u8).sz)) (some (⟨g, 0, none⟩ : Addr))) = some ⟨g, i, none⟩ from e] at h2
theorem Ev.cutB1 {w : World} {b : Nat} {o : Nat → Prop} {g n cap : Nat} {L : List Int} {c m : Int} (h : Kd.R (Kd.int .u8) 5 w b o (.slice (some ⟨g, 0, none⟩) n cap) (Ev.long L c m)) (hc : L.length + 7 ≤ cap) : (Kd.int .u8).C w (some ⟨g, 1, none⟩) (Ev.short c).length (Ev.short c) := by
  have h2 := Ev.cut 1 5 (Kd.R_reads' h).2.2 (by rw [Ev.long_len]; exact hc) (by decide) (by rw [Ev.long_len]; omega) (by omega)
  have e : ((Ev.long L c m).take 5).drop 1 = Ev.short c := by simp [Ev.long, Ev.short, word_Put.bs]
  rwa [e] at h2
theorem Ev.cutB5 {w : World} {b : Nat} {o : Nat → Prop} {g n cap : Nat} {L : List Int} {c m : Int} (h : Kd.R (Kd.int .u8) 5 w b o (.slice (some ⟨g, 0, none⟩) n cap) (Ev.long L c m)) (hc : L.length + 7 ≤ cap) : (Kd.int .u8).C w (some ⟨g, 5, none⟩) (word_Put.bs m).length (word_Put.bs m) := by
  have h2 := Ev.cut 5 7 (Kd.R_reads' h).2.2 (by rw [Ev.long_len]; exact hc) (by decide) (by rw [Ev.long_len]; omega) (by omega)
  have e : ((Ev.long L c m).take 7).drop 5 = word_Put.bs m := by simp [Ev.long, Ev.short, word_Put.bs]
  rwa [e] at h2
theorem Ev.cutB7 {w : World} {b : Nat} {o : Nat → Prop} {g n cap : Nat} {L : List Int} {c m : Int} (h : Kd.R (Kd.int .u8) 5 w b o (.slice (some ⟨g, 0, none⟩) n cap) (Ev.long L c m)) (hc : L.length + 7 ≤ cap) : (Kd.int .u8).C w (if cap = 7 then some ⟨g, 0, none⟩ else some ⟨g, 7, none⟩) L.length L := by
  have h2 := Kd.C_drop (c := cap) (Kd.R_reads' h).2.2 (m := 7) (by rw [Ev.long_len]; omega) (by rw [Ev.long_len]; exact hc)
  have e : (Ev.long L c m).drop 7 = L := by simp [Ev.long, Ev.short, word_Put.bs]
  rw [e] at h2
  have e2 := Ev.addr g 7
  rwa [show (Option.map (fun x => x.add (7 * (Kd.int IntKind.u8).sz)) (some (⟨g, 0, none⟩ : Addr))) = some ⟨g, 7, none⟩ from e2] at h2
theorem Ev.cutS2 {w : World} {b : Nat} {o : Nat → Prop} {g n cap : Nat} {c : Int} (h : Kd.R (Kd.int .u8) 5 w b o (.slice (some ⟨g, 0, none⟩) n cap) (Ev.short c)) : (Kd.int .u8).C w (some ⟨g, 2, none⟩) (word_Put.bs c).length (word_Put.bs c) := by
  have hr := Kd.R_reads' h
  have hc : (Ev.short c).length ≤ cap := by have := hr.1; have := hr.2.1; omega
  have h4 := Ev.short_len c
  have h2 := Ev.cut 2 4 hr.2.2 hc (by decide) (by omega) (by omega)
  have e : ((Ev.short c).take 4).drop 2 = word_Put.bs c := by simp [Ev.short, word_Put.bs]
  rwa [e] at h2
set_option maxHeartbeats 32000000 in
set_option maxRecDepth 100000 in
theorem bilgelaw19_EventLong.calls (A0 : Option Addr) (c0 : Nat) (l0 : List (S81)) (a1 : Int) (r : Bool) (w : World) (hr0 : Kd.C k81 w A0 l0.length l0) (hc0 : l0.length ≤ c0) (h : bilgelaw19_EventLong.f l0 a1 = some r) :
    Calls Try.prog 12 #[.slice A0 l0.length c0, .int .u16 a1] w fun e w' => e = .returned (.bool r) ∧ Below w.heap.size w w' := by
  unfold bilgelaw19_EventLong.f at h
  by_cases hc : l0.length ≤ 281474976710656 ∧ 0 ≤ a1 ∧ a1 ≤ 65535
  · rw [if_pos hc] at h
    obtain rfl := Option.some.inj h
    clear h
    obtain ⟨k1, k2, k3⟩ := hc
    have HR := Aside0.mk hr0
    clear hr0
    have hu81 := Try.underlying81
    have HB := Aside0.mk (Below.refl w.heap.size w)
    by_cases hl : (l0.length : Int) > 300
    · go_enter Try.func12, Try.ntmps12
      go_wp2_with (first | (go_at_call 45; (with_reducible refine Ev.sure.mono ?_); rintro e w1 ⟨rfl, hb⟩))
      go_ret
      exact ⟨rfl, hb⟩
    · go_enter Try.func12, Try.ntmps12
      go_wp2_with (first | (go_at_call 46; (with_reducible refine Ev.new_ok.mono ?_); rintro r w1 ⟨e, g, rfl, hV, hb⟩; have HV := Aside0.mk hV; have HB2 := Aside0.mk (below_step HB.out hb); clear HB hb hV; have HB := HB2; clear HB2))
      go_loopw [6, 7, 8, 19, 20, 21, 22, 23, 24, 25, 26, 27, 28, 29, 30, 31, 32, 33, 34, 35, 36, 37, 38, 39, 40, 41, 42, 43, 44, 45, 46, 47, 48, 49, 50, 51, 52, 53, 54, 55, 56, 57, 58, 59, 60, 61, 62, 63, 64, 65, 66, 67, 68, 69, 70, 71, 72, 73, 74, 75, 76, 77, 78, 79, 80, 81, 82, 83, 84, 85, 86, 87, 88, 89, 90, 91, 92, 93, 94, 95, 96, 97, 98, 99, 100, 101, 102, 103, 104, 105, 106, 107] (fun v6 v7 v8 v19 v20 v21 v22 v23 v24 v25 v26 v27 v28 v29 v30 v31 v32 v33 v34 v35 v36 v37 v38 v39 v40 v41 v42 v43 v44 v45 v46 v47 v48 v49 v50 v51 v52 v53 v54 v55 v56 v57 v58 v59 v60 v61 v62 v63 v64 v65 v66 v67 v68 v69 v70 v71 v72 v73 v74 v75 v76 v77 v78 v79 v80 v81 v82 v83 v84 v85 v86 v87 v88 v89 v90 v91 v92 v93 v94 v95 v96 v97 v98 v99 v100 v101 v102 v103 v104 v105 v106 v107 wr => ∃ (i : Nat) (L : List Int) (c : Int), i ≤ l0.length ∧ v6 = .int .i64 i ∧ Aside0 (Ev.V wr w.heap.size e g L c) ∧ Aside0 (Below w.heap.size w wr) ∧ Aside0 (0 ≤ c ∧ c ≤ 65535)) (fun v6 _ _ _ _ _ _ _ _ _ _ _ _ _ _ _ _ _ _ _ _ _ _ _ _ _ _ _ _ _ _ _ _ _ _ _ _ _ _ _ _ _ _ _ _ _ _ _ _ _ _ _ _ _ _ _ _ _ _ _ _ _ _ _ _ _ _ _ _ _ _ _ _ _ _ _ _ _ _ _ _ _ _ _ _ _ _ _ _ _ _ _ _ => l0.length - (intOf v6).toNat)
      case atStart => exact ⟨0, [], 0, Nat.zero_le _, rfl, HV, HB, ⟨by omega, by omega⟩⟩
      case round =>
        clear HV HB
        obtain ⟨i, L, c, hi, rfl, HV, HB, HC⟩ := hrel
        by_cases hlt : (i : Int) < l0.length
        · have h0 : (0 : Int) ≤ (i : Int) := by omega
          have hL := HV.out.len
          obtain ⟨ad, ea, hx⟩ := at_T81 (Kd.C_below HR.out HB.out) (i : Int) h0 hlt
          rw [Int.toNat_natCast] at hx
          obtain ⟨x0, x1, x2, x3, x4, x5⟩ := hx
          subst ea
          by_cases q0 : (rd_T81 l0 (i : Int)).f0 = 0
          · as_aux_lemma =>
              go_wp2_with (first | (go_at_call 47; (with_reducible refine (Ev.list_ok HV.out).mono ?_); rintro r w4 ⟨v, rfl, ho, hb⟩; obtain ⟨Al, cl, el⟩ := Kd.R_slice ho; subst el; have HE := Aside0.mk ho; have HV2 := Aside0.mk (Ev.V_below HV.out hb); have HB2 := Aside0.mk (below_step HB.out hb); clear HV HB hb ho x0 x1 x2 x3 x4 x5; have HV := HV2; have HB := HB2; clear HV2 HB2; obtain ⟨ad', ea', hx⟩ := at_T81 (Kd.C_below HR.out HB.out) (i : Int) h0 hlt; rw [Int.toNat_natCast] at hx; (have ea2 := Option.some.inj ea'); subst ea2; obtain ⟨x0, x1, x2, x3, x4, x5⟩ := hx))
              go_still_tail 25, (by kernel_rfl)
              change wpList _ _ _ _ _ w4.drew
              have HV2 : Aside0 (Ev.V w4.drew w.heap.size e g L c) := ⟨HV.out⟩
              have HB2 : Aside0 (Below w.heap.size w w4.drew) := ⟨below_drew1 HB.out⟩
              clear HV HB x0 x1 x2 x3 x4 x5 HE
              have HV := HV2
              have HB := HB2
              clear HV2 HB2
              generalize w4.drew = wd at HV HB ⊢
              obtain ⟨ad', ea', hx⟩ := at_T81 (Kd.C_below HR.out HB.out) (i : Int) h0 hlt
              rw [Int.toNat_natCast] at hx
              (have ea2 := Option.some.inj ea')
              subst ea2
              obtain ⟨x0, x1, x2, x3, x4, x5⟩ := hx
              go_wp2_with (first | (go_at_call 48; (with_reducible refine (Ev.heard_ok HV.out _ _ _ _).mono ?_); rintro r w5 ⟨rfl, hV, hk, hb⟩; have HV2 := Aside0.mk hV; have HB2 := Aside0.mk (HB.out.trans hb); clear HV HB hV hk hb x0 x1 x2 x3 x4 x5; have HV := HV2; have HB := HB2; clear HV2 HB2; obtain ⟨ad', ea', hx⟩ := at_T81 (Kd.C_below HR.out HB.out) (i : Int) h0 hlt; rw [Int.toNat_natCast] at hx; (have ea2 := Option.some.inj ea'); subst ea2; obtain ⟨x0, x1, x2, x3, x4, x5⟩ := hx))
              have hl2 : (((Ev.x4 (rd_T81 l0 (i : Int)).f2.f0 (rd_T81 l0 (i : Int)).f2.f1 (rd_T81 l0 (i : Int)).f2.f2 (rd_T81 l0 (i : Int)).f2.f3) :: L).take 64).length = min 64 (L.length + 1) := by rw [List.length_take, List.length_cons]
              have hge : decide (128 ≤ Ev.x4 (rd_T81 l0 (i : Int)).f2.f0 (rd_T81 l0 (i : Int)).f2.f1 (rd_T81 l0 (i : Int)).f2.f2 (rd_T81 l0 (i : Int)).f2.f3) = true := decide_eq_true (by unfold Ev.x4; (repeat' split) <;> omega)
              obtain ⟨M, hM⟩ : ∃ M, ((Ev.x4 (rd_T81 l0 (i : Int)).f2.f0 (rd_T81 l0 (i : Int)).f2.f1 (rd_T81 l0 (i : Int)).f2.f2 (rd_T81 l0 (i : Int)).f2.f3) :: L).take 64 = (Ev.x4 (rd_T81 l0 (i : Int)).f2.f0 (rd_T81 l0 (i : Int)).f2.f1 (rd_T81 l0 (i : Int)).f2.f2 (rd_T81 l0 (i : Int)).f2.f3) :: M := ⟨L.take 63, rfl⟩
              rw [hM] at HV hl2
              generalize Ev.x4 (rd_T81 l0 (i : Int)).f2.f0 (rd_T81 l0 (i : Int)).f2.f1 (rd_T81 l0 (i : Int)).f2.f2 (rd_T81 l0 (i : Int)).f2.f3 = x at HV hl2 hge hM
              clear hM
              replace hl2 := Aside0.mk hl2
              go_wp2_with (first | (go_at_call 47; (with_reducible refine (Ev.list_ok HV.out).mono ?_); rintro r w4 ⟨v, rfl, ho, hb⟩; obtain ⟨Al, cl, el⟩ := Kd.R_slice ho; subst el; have HE := Aside0.mk ho; have HV2 := Aside0.mk (Ev.V_below HV.out hb); have HB2 := Aside0.mk (below_step HB.out hb); clear HV HB hb ho x0 x1 x2 x3 x4 x5; have HV := HV2; have HB := HB2; clear HV2 HB2; obtain ⟨ad', ea', hx⟩ := at_T81 (Kd.C_below HR.out HB.out) (i : Int) h0 hlt; rw [Int.toNat_natCast] at hx; (have ea2 := Option.some.inj ea'); subst ea2; obtain ⟨x0, x1, x2, x3, x4, x5⟩ := hx))
              obtain ⟨go, co, eo, gb, gl, gc, hG⟩ := Kd.R_form HE.out (by simp)
              injection eo with e1 e2 e3
              subst e1
              subst e3
              clear e2 hG gb gl gc
              have hw0 := (Kd.R_celln 0 HE.out 0 (by decide) (by simp)).1
              replace hw0 : w4.cell? ⟨go, 0, none⟩ = some (.int .u8 x) := hw0
              have hm : (if 64 < (L.length : Int) + 1 then 64 else (L.length : Int) + 1) = (M.length : Int) + 1 := by have hl3 := hl2.out; rw [List.length_cons] at hl3; split <;> omega
              have hw64 : IntKind.i64.wrap ((L.length : Int) + 1) = (L.length : Int) + 1 := by rw [i64_w]; exact Ring.w64 (by omega)
              go_quiet (fail)
              go_wp2
              go_roundw
              case rel => exact ⟨i + 1, (x :: M), c, by omega, rfl, ⟨HV.out⟩, ⟨pw_below_drewN HB.out _⟩, HC⟩
              case measure => simp [intOf]; omega
          · by_cases q1 : (rd_T81 l0 (i : Int)).f0 = 1
            · as_aux_lemma =>
                go_wp2_with (first | (go_at_call 47; (with_reducible refine (Ev.list_ok HV.out).mono ?_); rintro r w4 ⟨v, rfl, ho, hb⟩; obtain ⟨Al, cl, el⟩ := Kd.R_slice ho; subst el; have HE := Aside0.mk ho; have HV2 := Aside0.mk (Ev.V_below HV.out hb); have HB2 := Aside0.mk (below_step HB.out hb); clear HV HB hb ho x0 x1 x2 x3 x4 x5; have HV := HV2; have HB := HB2; clear HV2 HB2; obtain ⟨ad', ea', hx⟩ := at_T81 (Kd.C_below HR.out HB.out) (i : Int) h0 hlt; rw [Int.toNat_natCast] at hx; (have ea2 := Option.some.inj ea'); subst ea2; obtain ⟨x0, x1, x2, x3, x4, x5⟩ := hx))
                go_still_tail 12, (by kernel_rfl)
                change wpList _ _ _ _ _ w4.drew
                have HV2 : Aside0 (Ev.V w4.drew w.heap.size e g L c) := ⟨HV.out⟩
                have HB2 : Aside0 (Below w.heap.size w w4.drew) := ⟨below_drew1 HB.out⟩
                clear HV HB x0 x1 x2 x3 x4 x5 HE
                have HV := HV2
                have HB := HB2
                clear HV2 HB2
                generalize w4.drew = wd at HV HB ⊢
                obtain ⟨ad', ea', hx⟩ := at_T81 (Kd.C_below HR.out HB.out) (i : Int) h0 hlt
                rw [Int.toNat_natCast] at hx
                (have ea2 := Option.some.inj ea')
                subst ea2
                obtain ⟨x0, x1, x2, x3, x4, x5⟩ := hx
                go_wp2_with (first | (go_at_call 49; (with_reducible refine (Ev.said_ok HV.out _ _).mono ?_); rintro r w5 ⟨rfl, hV, hk, hb⟩; have HV2 := Aside0.mk hV; have HB2 := Aside0.mk (HB.out.trans hb); clear HV HB hV hk hb x0 x1 x2 x3 x4 x5; have HV := HV2; have HB := HB2; clear HV2 HB2; obtain ⟨ad', ea', hx⟩ := at_T81 (Kd.C_below HR.out HB.out) (i : Int) h0 hlt; rw [Int.toNat_natCast] at hx; (have ea2 := Option.some.inj ea'); subst ea2; obtain ⟨x0, x1, x2, x3, x4, x5⟩ := hx))
                have hl2 : (((Ev.x3 (decide (1 ≤ (rd_T81 l0 (i : Int)).f1 ∧ (rd_T81 l0 (i : Int)).f1 ≤ 3)) (decide ((rd_T81 l0 (i : Int)).f1 = 4)) (rd_T81 l0 (i : Int)).f2.f0) :: L).take 64).length = min 64 (L.length + 1) := by rw [List.length_take, List.length_cons]
                have hge : decide (128 ≤ Ev.x3 (decide (1 ≤ (rd_T81 l0 (i : Int)).f1 ∧ (rd_T81 l0 (i : Int)).f1 ≤ 3)) (decide ((rd_T81 l0 (i : Int)).f1 = 4)) (rd_T81 l0 (i : Int)).f2.f0) = false := decide_eq_false (by unfold Ev.x3; (repeat' split) <;> omega)
                obtain ⟨M, hM⟩ : ∃ M, ((Ev.x3 (decide (1 ≤ (rd_T81 l0 (i : Int)).f1 ∧ (rd_T81 l0 (i : Int)).f1 ≤ 3)) (decide ((rd_T81 l0 (i : Int)).f1 = 4)) (rd_T81 l0 (i : Int)).f2.f0) :: L).take 64 = (Ev.x3 (decide (1 ≤ (rd_T81 l0 (i : Int)).f1 ∧ (rd_T81 l0 (i : Int)).f1 ≤ 3)) (decide ((rd_T81 l0 (i : Int)).f1 = 4)) (rd_T81 l0 (i : Int)).f2.f0) :: M := ⟨L.take 63, rfl⟩
                rw [hM] at HV hl2
                generalize Ev.x3 (decide (1 ≤ (rd_T81 l0 (i : Int)).f1 ∧ (rd_T81 l0 (i : Int)).f1 ≤ 3)) (decide ((rd_T81 l0 (i : Int)).f1 = 4)) (rd_T81 l0 (i : Int)).f2.f0 = x at HV hl2 hge hM
                clear hM
                replace hl2 := Aside0.mk hl2
                go_wp2_with (first | (go_at_call 47; (with_reducible refine (Ev.list_ok HV.out).mono ?_); rintro r w4 ⟨v, rfl, ho, hb⟩; obtain ⟨Al, cl, el⟩ := Kd.R_slice ho; subst el; have HE := Aside0.mk ho; have HV2 := Aside0.mk (Ev.V_below HV.out hb); have HB2 := Aside0.mk (below_step HB.out hb); clear HV HB hb ho x0 x1 x2 x3 x4 x5; have HV := HV2; have HB := HB2; clear HV2 HB2; obtain ⟨ad', ea', hx⟩ := at_T81 (Kd.C_below HR.out HB.out) (i : Int) h0 hlt; rw [Int.toNat_natCast] at hx; (have ea2 := Option.some.inj ea'); subst ea2; obtain ⟨x0, x1, x2, x3, x4, x5⟩ := hx))
                obtain ⟨go, co, eo, gb, gl, gc, hG⟩ := Kd.R_form HE.out (by simp)
                injection eo with e1 e2 e3
                subst e1
                subst e3
                clear e2 hG gb gl gc
                have hw0 := (Kd.R_celln 0 HE.out 0 (by decide) (by simp)).1
                replace hw0 : w4.cell? ⟨go, 0, none⟩ = some (.int .u8 x) := hw0
                have hm : (if 64 < (L.length : Int) + 1 then 64 else (L.length : Int) + 1) = (M.length : Int) + 1 := by have hl3 := hl2.out; rw [List.length_cons] at hl3; split <;> omega
                have hw64 : IntKind.i64.wrap ((L.length : Int) + 1) = (L.length : Int) + 1 := by rw [i64_w]; exact Ring.w64 (by omega)
                go_quiet (fail)
                go_wp2
                go_roundw
                case rel => exact ⟨i + 1, (x :: M), c, by omega, rfl, ⟨HV.out⟩, ⟨pw_below_drewN HB.out _⟩, HC⟩
                case measure => simp [intOf]; omega
            · by_cases q4 : (rd_T81 l0 (i : Int)).f0 = 4
              · as_aux_lemma =>
                  go_wp2_with (first | (go_at_call 47; (with_reducible refine (Ev.list_ok HV.out).mono ?_); rintro r w4 ⟨v, rfl, ho, hb⟩; obtain ⟨Al, cl, el⟩ := Kd.R_slice ho; subst el; have HE := Aside0.mk ho; have HV2 := Aside0.mk (Ev.V_below HV.out hb); have HB2 := Aside0.mk (below_step HB.out hb); clear HV HB hb ho x0 x1 x2 x3 x4 x5; have HV := HV2; have HB := HB2; clear HV2 HB2; obtain ⟨ad', ea', hx⟩ := at_T81 (Kd.C_below HR.out HB.out) (i : Int) h0 hlt; rw [Int.toNat_natCast] at hx; (have ea2 := Option.some.inj ea'); subst ea2; obtain ⟨x0, x1, x2, x3, x4, x5⟩ := hx))
                  clear HE
                  go_wp2_with (first | (go_at_call 50; (with_reducible refine (Ev.done_ok HV.out).mono ?_); rintro r w5 ⟨rfl, hV, hk, hb⟩; have HV2 := Aside0.mk hV; have HB2 := Aside0.mk (HB.out.trans hb); clear HV HB hV hk hb x0 x1 x2 x3 x4 x5; have HV := HV2; have HB := HB2; clear HV2 HB2; obtain ⟨ad', ea', hx⟩ := at_T81 (Kd.C_below HR.out HB.out) (i : Int) h0 hlt; rw [Int.toNat_natCast] at hx; (have ea2 := Option.some.inj ea'); subst ea2; obtain ⟨x0, x1, x2, x3, x4, x5⟩ := hx))
                  go_wp2_with (first | (go_at_call 47; (with_reducible refine (Ev.list_ok HV.out).mono ?_); rintro r w4 ⟨v, rfl, ho, hb⟩; obtain ⟨Al, cl, el⟩ := Kd.R_slice ho; subst el; have HE := Aside0.mk ho; have HV2 := Aside0.mk (Ev.V_below HV.out hb); have HB2 := Aside0.mk (below_step HB.out hb); clear HV HB hb ho x0 x1 x2 x3 x4 x5; have HV := HV2; have HB := HB2; clear HV2 HB2; obtain ⟨ad', ea', hx⟩ := at_T81 (Kd.C_below HR.out HB.out) (i : Int) h0 hlt; rw [Int.toNat_natCast] at hx; (have ea2 := Option.some.inj ea'); subst ea2; obtain ⟨x0, x1, x2, x3, x4, x5⟩ := hx))
                  go_roundw
                  case rel => exact ⟨i + 1, L, _, by omega, rfl, HV, HB, ⟨by simp [IntKind.wrap, IntKind.bits, IntKind.signed]; omega⟩⟩
                  case measure => simp [intOf]; omega
              · as_aux_lemma =>
                  go_wp2_with (first | (go_at_call 47; (with_reducible refine (Ev.list_ok HV.out).mono ?_); rintro r w4 ⟨v, rfl, ho, hb⟩; obtain ⟨Al, cl, el⟩ := Kd.R_slice ho; subst el; have HE := Aside0.mk ho; have HV2 := Aside0.mk (Ev.V_below HV.out hb); have HB2 := Aside0.mk (below_step HB.out hb); clear HV HB hb ho x0 x1 x2 x3 x4 x5; have HV := HV2; have HB := HB2; clear HV2 HB2; obtain ⟨ad', ea', hx⟩ := at_T81 (Kd.C_below HR.out HB.out) (i : Int) h0 hlt; rw [Int.toNat_natCast] at hx; (have ea2 := Option.some.inj ea'); subst ea2; obtain ⟨x0, x1, x2, x3, x4, x5⟩ := hx))
                  clear HE
                  go_wp2_with (first | (go_at_call 51; (with_reducible refine (Ev.entered_ok HV.out).mono ?_); rintro r w5 ⟨rfl, hV, hk, hb⟩; have HV2 := Aside0.mk hV; have HB2 := Aside0.mk (HB.out.trans hb); clear HV HB hV hk hb x0 x1 x2 x3 x4 x5; have HV := HV2; have HB := HB2; clear HV2 HB2; obtain ⟨ad', ea', hx⟩ := at_T81 (Kd.C_below HR.out HB.out) (i : Int) h0 hlt; rw [Int.toNat_natCast] at hx; (have ea2 := Option.some.inj ea'); subst ea2; obtain ⟨x0, x1, x2, x3, x4, x5⟩ := hx))
                  have hl2 : ((((4 : Int)) :: L).take 64).length = min 64 (L.length + 1) := by rw [List.length_take, List.length_cons]
                  have hge : decide (128 ≤ (4 : Int)) = false := by decide
                  obtain ⟨M, hM⟩ : ∃ M, (((4 : Int)) :: L).take 64 = ((4 : Int)) :: M := ⟨L.take 63, rfl⟩
                  rw [hM] at HV hl2
                  generalize (4 : Int) = x at HV hl2 hge hM
                  clear hM
                  replace hl2 := Aside0.mk hl2
                  have hq0 : ((rd_T81 l0 (i : Int)).f0 == 0) = false := by simpa using q0
                  have hq1 : decide ((rd_T81 l0 (i : Int)).f0 = 0) = false := decide_eq_false q0
                  go_wp2_with (first | (go_at_call 47; (with_reducible refine (Ev.list_ok HV.out).mono ?_); rintro r w4 ⟨v, rfl, ho, hb⟩; obtain ⟨Al, cl, el⟩ := Kd.R_slice ho; subst el; have HE := Aside0.mk ho; have HV2 := Aside0.mk (Ev.V_below HV.out hb); have HB2 := Aside0.mk (below_step HB.out hb); clear HV HB hb ho x0 x1 x2 x3 x4 x5; have HV := HV2; have HB := HB2; clear HV2 HB2; obtain ⟨ad', ea', hx⟩ := at_T81 (Kd.C_below HR.out HB.out) (i : Int) h0 hlt; rw [Int.toNat_natCast] at hx; (have ea2 := Option.some.inj ea'); subst ea2; obtain ⟨x0, x1, x2, x3, x4, x5⟩ := hx))
                  obtain ⟨go, co, eo, gb, gl, gc, hG⟩ := Kd.R_form HE.out (by simp)
                  injection eo with e1 e2 e3
                  subst e1
                  subst e3
                  clear e2 hG gb gl gc
                  have hw0 := (Kd.R_celln 0 HE.out 0 (by decide) (by simp)).1
                  replace hw0 : w4.cell? ⟨go, 0, none⟩ = some (.int .u8 x) := hw0
                  have hm : (if 64 < (L.length : Int) + 1 then 64 else (L.length : Int) + 1) = (M.length : Int) + 1 := by have hl3 := hl2.out; rw [List.length_cons] at hl3; split <;> omega
                  have hw64 : IntKind.i64.wrap ((L.length : Int) + 1) = (L.length : Int) + 1 := by rw [i64_w]; exact Ring.w64 (by omega)
                  go_quiet (fail)
                  go_wp2
                  go_roundw
                  case rel => exact ⟨i + 1, (x :: M), c, by omega, rfl, ⟨HV.out⟩, ⟨pw_below_drewN HB.out _⟩, HC⟩
                  case measure => simp [intOf]; omega
        · obtain rfl : i = l0.length := by omega
          have hL := HV.out.len
          have hbl := Ev.long_len L c a1
          have hsl := Ev.short_len c
          go_wp2_with (first
            | (go_at_call 52; (with_reducible refine (Ev.long_ok HV.out a1).mono ?_); rintro r w4 ⟨vb, rfl, ho, hb⟩; have HX := Aside0.mk (Kd.R_lower ho (below_size HB.out)); have HV2 := Aside0.mk (Ev.V_below HV.out hb); have HB2 := Aside0.mk (below_step HB.out hb); clear HV HB hb; have HV := HV2; have HB := HB2; clear HV2 HB2; clear ho)
            | (go_at_call 53; (with_reducible refine (Ev.short_ok HV.out).mono ?_); rintro r w5 ⟨vs, rfl, ho, hb⟩; have HS := Aside0.mk (Kd.R_lower ho (below_size HB.out)); have HX2 := Aside0.mk (Kd.R_below HX.out hb); have HV2 := Aside0.mk (Ev.V_below HV.out hb); have HB2 := Aside0.mk (below_step HB.out hb); clear HV HB hb; have HV := HV2; have HB := HB2; clear HV2 HB2; clear ho HX; have HX := HX2; clear HX2)
            | (go_at_call 47; (with_reducible refine (Ev.list_ok HV.out).mono ?_); rintro r wz ⟨ve, rfl, ho, hb⟩; have HE := Aside0.mk (Kd.R_lower ho (below_size HB.out)); have HX2 := Aside0.mk (Kd.R_below HX.out hb); have HS2 := Aside0.mk (Kd.R_below HS.out hb); have HV2 := Aside0.mk (Ev.V_below HV.out hb); have HB2 := Aside0.mk (below_step HB.out hb); clear HV HB hb; have HV := HV2; have HB := HB2; clear HV2 HB2; clear ho HX HS; have HX := HX2; have HS := HS2; clear HX2 HS2; obtain ⟨Ae, ce, ee⟩ := Kd.R_slice HE.out; subst ee; obtain ⟨gb, capb, eb, _, _, _, _⟩ := Kd.R_form HX.out (by simp [Ev.long]); subst eb; obtain ⟨gs, caps, es, _, _, _, _⟩ := Kd.R_form HS.out (by simp [Ev.short, word_Put.bs]); subst es))
          have hX1 : Kd.R (Kd.int .u8) 5 wz w.heap.size (fun _ => True) (.slice (some ⟨gb, 0, none⟩) (L.length + 7) capb) (Ev.long L c a1) := by rw [← hbl]; exact HX.out
          have hS1 : Kd.R (Kd.int .u8) 5 wz w.heap.size (fun _ => True) (.slice (some ⟨gs, 0, none⟩) 4 caps) (Ev.short c) := by rw [← hsl]; exact HS.out
          clear HX HS
          have HX := Aside0.mk hX1
          have HS := Aside0.mk hS1
          have hcb := Aside0.mk (Kd.R_reads' hX1).2.1
          have hcs := (Kd.R_reads' hS1).2.1
          have hX0 : Aside0 ((6 + (L.length : Int)) % 256 = 6 + (L.length : Int)) := ⟨by omega⟩
          clear hX1 hS1
          have c1 : 1 ≤ capb := by have := hcb.out; omega
          have c5 : 5 ≤ capb := by have := hcb.out; omega
          have c7 : 7 ≤ capb := by have := hcb.out; omega
          have c1n : ¬ capb = 1 := by have := hcb.out; omega
          have c5n : ¬ capb = 5 := by have := hcb.out; omega
          have s2n : ¬ caps = 2 := by omega
          have s2 : 2 ≤ caps := by omega
          have f1 : IntKind.i64.wrap (7 + (L.length : Int)) = (L.length : Int) + 7 := by rw [i64_w, Ring.w64 (by omega)]; omega
          have f2 : IntKind.i64.wrap (6 + (L.length : Int)) = (L.length : Int) + 6 := by rw [i64_w, Ring.w64 (by omega)]; omega
          have f3 : IntKind.i64.wrap ((L.length : Int) + 7 - 1) = (L.length : Int) + 6 := by rw [i64_w, Ring.w64 (by omega)]; omega
          have p1 : (0 : Int) < ((L.length + 7 : Nat) : Int) := by omega
          have p2 : 0 < L.length + 7 := by omega
          have p3 : (0 : Int) < (L.length : Int) + 7 := by omega
          have d1 : (5 : Int) ≤ (capb : Int) := by omega
          have d2 : (7 : Int) ≤ (capb : Int) := by omega
          have d4 : L.length + 7 ≤ capb := hcb.out
          have d3 : (L.length : Int) + 7 ≤ (capb : Int) := by omega
          have d5 : (7 : Int) ≤ (L.length : Int) + 7 := by omega
          have d6 : 7 ≤ L.length + 7 := by omega
          have d7 : (4 : Int) ≤ (caps : Int) := by omega
          have d8 : 4 ≤ caps := hcs
          have d9 : (1 : Int) ≤ (capb : Int) := by omega
          have f4 : decide ((L.length : Int) + 7 ≤ 71) = true := decide_eq_true (by omega)
          by_cases hcap : capb = 7
          · subst hcap
            have hL0 : Aside0 (L.length = 0) := ⟨by have := hcb.out; omega⟩
            go_wp2
            as_aux_lemma =>
              refine start_ (n := 59) (S := fun w' => w'.cell? ⟨gb, 0, none⟩ = some (.int .u8 (6 + (L.length : Int)))) (ds := []) #[false, false, false, false, false, false, false, false, false, false, false, false, false, false, false, false, false, false, false, false, false, false, false, false, false, false, false, false, false, false, false, false, false, false, false, false, false, false, false, false, false, false, false, false, false, false, false, false, false, false, false, false, false, false, false, false, false, false, false] (by kernel_rfl) rfl rfl (Ev.first HX.out hX0.out) (fun hHeld => ?_)
              have HV2 : Aside0 (Ev.V wz.drew w.heap.size e g L c) := ⟨HV.out⟩
              have HX2 : Aside0 (Kd.R (Kd.int .u8) 5 wz.drew w.heap.size (fun _ => True) (.slice (some ⟨gb, 0, none⟩) (L.length + 7) 7) (Ev.long L c a1)) := ⟨HX.out⟩
              have HS2 : Aside0 (Kd.R (Kd.int .u8) 5 wz.drew w.heap.size (fun _ => True) (.slice (some ⟨gs, 0, none⟩) 4 caps) (Ev.short c)) := ⟨HS.out⟩
              have HE2 : Aside0 (Kd.R (Kd.int .u8) 5 wz.drew w.heap.size (fun _ => True) (.slice Ae L.length ce) L) := ⟨HE.out⟩
              have HB2 : Aside0 (Below w.heap.size w wz.drew) := ⟨below_drew1 HB.out⟩
              clear HV HX HS HE HB
              have HV := HV2
              have HX := HX2
              have HS := HS2
              have HE := HE2
              have HB := HB2
              clear HV2 HX2 HS2 HE2 HB2
              generalize wz.drew = wd at HV HX HS HE HB hHeld ⊢
              refine pure_ (i := 0) (N := some 115) (v := ?_) (a' := ?_) #[true, false, false, false, false, false, false, false, false, false, false, false, false, false, false, false, false, false, false, false, false, false, false, false, false, false, false, false, false, false, false, false, false, false, false, false, false, false, false, false, false, false, false, false, false, false, false, false, false, false, false, false, false, false, false, false, false, false, false] rfl rfl (by kernel_rfl) (fun _ _ _ h => h) (Or.inl ⟨by rfl, ?_⟩) ?_ ?_
              rotate_left
              · intro w'
                go_simp
                first | with_reducible rfl | (simp [Instr.field, go_sem]; rfl)
              rotate_left
              · simp only [Act.put, List.setIfInBounds_toArray, List.set_cons_zero, List.set_cons_succ]
                rfl
              refine pure_ (i := 1) (N := some 116) (v := ?_) (a' := ?_) #[true, true, false, false, false, false, false, false, false, false, false, false, false, false, false, false, false, false, false, false, false, false, false, false, false, false, false, false, false, false, false, false, false, false, false, false, false, false, false, false, false, false, false, false, false, false, false, false, false, false, false, false, false, false, false, false, false, false, false] rfl rfl (by kernel_rfl) (fun _ _ _ h => h) (Or.inl ⟨by rfl, ?_⟩) ?_ ?_
              rotate_left
              · intro w'
                go_simp
                first | with_reducible rfl | (simp [Instr.field, go_sem]; rfl)
              rotate_left
              · simp only [Act.put, List.setIfInBounds_toArray, List.set_cons_zero, List.set_cons_succ]
                rfl
              refine pure_ (i := 2) (N := some 117) (v := ?_) (a' := ?_) #[true, true, true, false, false, false, false, false, false, false, false, false, false, false, false, false, false, false, false, false, false, false, false, false, false, false, false, false, false, false, false, false, false, false, false, false, false, false, false, false, false, false, false, false, false, false, false, false, false, false, false, false, false, false, false, false, false, false, false] rfl rfl (by kernel_rfl) (fun _ _ _ h => h) (Or.inl ⟨by rfl, ?_⟩) ?_ ?_
              rotate_left
              · intro w'
                go_simp
                first | with_reducible rfl | (simp [Instr.field, go_sem]; rfl)
              rotate_left
              · simp only [Act.put, List.setIfInBounds_toArray, List.set_cons_zero, List.set_cons_succ]
                rfl
              refine pure_ (i := 3) (N := some 118) (v := ?_) (a' := ?_) #[true, true, true, true, false, false, false, false, false, false, false, false, false, false, false, false, false, false, false, false, false, false, false, false, false, false, false, false, false, false, false, false, false, false, false, false, false, false, false, false, false, false, false, false, false, false, false, false, false, false, false, false, false, false, false, false, false, false, false] rfl rfl (by kernel_rfl) (fun _ _ _ h => h) (Or.inl ⟨by rfl, ?_⟩) ?_ ?_
              rotate_left
              · intro w'
                go_simp
                first | with_reducible rfl | (simp [Instr.field, go_sem]; rfl)
              rotate_left
              · simp only [Act.put, List.setIfInBounds_toArray, List.set_cons_zero, List.set_cons_succ]
                rfl
              refine pure_ (i := 4) (N := some 119) (v := ?_) (a' := ?_) #[true, true, true, true, true, false, false, false, false, false, false, false, false, false, false, false, false, false, false, false, false, false, false, false, false, false, false, false, false, false, false, false, false, false, false, false, false, false, false, false, false, false, false, false, false, false, false, false, false, false, false, false, false, false, false, false, false, false, false] rfl rfl (by kernel_rfl) (fun _ _ _ h => h) (Or.inl ⟨by rfl, ?_⟩) ?_ ?_
              rotate_left
              · intro w'
                go_simp
                first | with_reducible rfl | (simp [Instr.field, go_sem]; rfl)
              rotate_left
              · simp only [Act.put, List.setIfInBounds_toArray, List.set_cons_zero, List.set_cons_succ]
                rfl
              refine pure_ (i := 5) (N := some 120) (v := ?_) (a' := ?_) #[true, true, true, true, true, true, false, false, false, false, false, false, false, false, false, false, false, false, false, false, false, false, false, false, false, false, false, false, false, false, false, false, false, false, false, false, false, false, false, false, false, false, false, false, false, false, false, false, false, false, false, false, false, false, false, false, false, false, false] rfl rfl (by kernel_rfl) (fun _ _ _ h => h) (Or.inl ⟨by rfl, ?_⟩) ?_ ?_
              rotate_left
              · intro w'
                go_simp
                first | with_reducible rfl | (simp [Instr.field, go_sem]; rfl)
              rotate_left
              · simp only [Act.put, List.setIfInBounds_toArray, List.set_cons_zero, List.set_cons_succ]
                rfl
              refine pure_ (i := 6) (N := some 121) (v := ?_) (a' := ?_) #[true, true, true, true, true, true, true, false, false, false, false, false, false, false, false, false, false, false, false, false, false, false, false, false, false, false, false, false, false, false, false, false, false, false, false, false, false, false, false, false, false, false, false, false, false, false, false, false, false, false, false, false, false, false, false, false, false, false, false] rfl rfl (by kernel_rfl) (fun _ _ _ h => h) (Or.inl ⟨by rfl, ?_⟩) ?_ ?_
              rotate_left
              · intro w'
                go_simp
                first | with_reducible rfl | (simp [Instr.field, go_sem]; rfl)
              rotate_left
              · simp only [Act.put, List.setIfInBounds_toArray, List.set_cons_zero, List.set_cons_succ]
                rfl
              refine pure_ (i := 7) (N := some 122) (v := ?_) (a' := ?_) #[true, true, true, true, true, true, true, true, false, false, false, false, false, false, false, false, false, false, false, false, false, false, false, false, false, false, false, false, false, false, false, false, false, false, false, false, false, false, false, false, false, false, false, false, false, false, false, false, false, false, false, false, false, false, false, false, false, false, false] rfl rfl (by kernel_rfl) (fun _ _ _ h => h) (Or.inl ⟨by rfl, ?_⟩) ?_ ?_
              rotate_left
              · intro w'
                go_simp
                first | with_reducible rfl | (simp [Instr.field, go_sem]; rfl)
              rotate_left
              · simp only [Act.put, List.setIfInBounds_toArray, List.set_cons_zero, List.set_cons_succ]
                rfl
              refine pure_ (i := 8) (N := some 123) (v := ?_) (a' := ?_) #[true, true, true, true, true, true, true, true, true, false, false, false, false, false, false, false, false, false, false, false, false, false, false, false, false, false, false, false, false, false, false, false, false, false, false, false, false, false, false, false, false, false, false, false, false, false, false, false, false, false, false, false, false, false, false, false, false, false, false] rfl rfl (by kernel_rfl) (fun _ _ _ h => h) (Or.inl ⟨by rfl, ?_⟩) ?_ ?_
              rotate_left
              · intro w'
                go_simp
                first | with_reducible rfl | (simp [Instr.field, go_sem]; rfl)
              rotate_left
              · simp only [Act.put, List.setIfInBounds_toArray, List.set_cons_zero, List.set_cons_succ]
                rfl
              refine pure_ (i := 9) (N := some 124) (v := ?_) (a' := ?_) #[true, true, true, true, true, true, true, true, true, true, false, false, false, false, false, false, false, false, false, false, false, false, false, false, false, false, false, false, false, false, false, false, false, false, false, false, false, false, false, false, false, false, false, false, false, false, false, false, false, false, false, false, false, false, false, false, false, false, false] rfl rfl (by kernel_rfl) (fun _ _ _ h => h) (Or.inl ⟨by rfl, ?_⟩) ?_ ?_
              rotate_left
              · intro w'
                go_simp
                first | with_reducible rfl | (simp [Instr.field, go_sem]; rfl)
              rotate_left
              · simp only [Act.put, List.setIfInBounds_toArray, List.set_cons_zero, List.set_cons_succ]
                rfl
              refine pure_ (i := 10) (N := some 125) (v := ?_) (a' := ?_) #[true, true, true, true, true, true, true, true, true, true, true, false, false, false, false, false, false, false, false, false, false, false, false, false, false, false, false, false, false, false, false, false, false, false, false, false, false, false, false, false, false, false, false, false, false, false, false, false, false, false, false, false, false, false, false, false, false, false, false] rfl rfl (by kernel_rfl) (fun _ _ _ h => h) (Or.inl ⟨by rfl, ?_⟩) ?_ ?_
              rotate_left
              · intro w'
                go_simp
                first | with_reducible rfl | (simp [Instr.field, go_sem]; rfl)
              rotate_left
              · simp only [Act.put, List.setIfInBounds_toArray, List.set_cons_zero, List.set_cons_succ]
                rfl
              refine pure_ (i := 11) (N := some 126) (v := ?_) (a' := ?_) #[true, true, true, true, true, true, true, true, true, true, true, true, false, false, false, false, false, false, false, false, false, false, false, false, false, false, false, false, false, false, false, false, false, false, false, false, false, false, false, false, false, false, false, false, false, false, false, false, false, false, false, false, false, false, false, false, false, false, false] rfl rfl (by kernel_rfl) (fun _ _ _ h => h) (Or.inl ⟨by rfl, ?_⟩) ?_ ?_
              rotate_left
              · intro w'
                go_simp
                first | with_reducible rfl | (simp [Instr.field, go_sem]; rfl)
              rotate_left
              · simp only [Act.put, List.setIfInBounds_toArray, List.set_cons_zero, List.set_cons_succ]
                rfl
              refine pure_ (i := 12) (N := some 127) (v := ?_) (a' := ?_) #[true, true, true, true, true, true, true, true, true, true, true, true, true, false, false, false, false, false, false, false, false, false, false, false, false, false, false, false, false, false, false, false, false, false, false, false, false, false, false, false, false, false, false, false, false, false, false, false, false, false, false, false, false, false, false, false, false, false, false] rfl rfl (by kernel_rfl) (fun _ _ _ h => h) (Or.inl ⟨by rfl, ?_⟩) ?_ ?_
              rotate_left
              · intro w'
                go_simp
                first | with_reducible rfl | (simp [Instr.field, go_sem]; rfl)
              rotate_left
              · simp only [Act.put, List.setIfInBounds_toArray, List.set_cons_zero, List.set_cons_succ]
                rfl
              refine pure_ (i := 13) (N := some 128) (v := ?_) (a' := ?_) #[true, true, true, true, true, true, true, true, true, true, true, true, true, true, false, false, false, false, false, false, false, false, false, false, false, false, false, false, false, false, false, false, false, false, false, false, false, false, false, false, false, false, false, false, false, false, false, false, false, false, false, false, false, false, false, false, false, false, false] rfl rfl (by kernel_rfl) (fun _ _ _ h => h) (Or.inl ⟨by rfl, ?_⟩) ?_ ?_
              rotate_left
              · intro w'
                go_simp
                first | with_reducible rfl | (simp [Instr.field, go_sem]; rfl)
              rotate_left
              · simp only [Act.put, List.setIfInBounds_toArray, List.set_cons_zero, List.set_cons_succ]
                rfl
              refine take_ (i := 14) (N := some 129) (v := ?_) (a' := ?_) #[true, true, true, true, true, true, true, true, true, true, true, true, true, true, true, false, false, false, false, false, false, false, false, false, false, false, false, false, false, false, false, false, false, false, false, false, false, false, false, false, false, false, false, false, false, false, false, false, false, false, false, false, false, false, false, false, false, false, false] rfl rfl (by kernel_rfl) (fun _ _ _ h => h) (Or.inl ⟨by rfl, ?_⟩) hHeld ?_ ?_
              rotate_left
              · rintro w' s0
                go_simp
                first | with_reducible rfl | (simp [Instr.field, go_sem]; rfl)
              rotate_left
              · simp only [Act.put, List.setIfInBounds_toArray, List.set_cons_zero, List.set_cons_succ]
                rfl
              refine pure_ (i := 15) (N := some 130) (v := ?_) (a' := ?_) #[true, true, true, true, true, true, true, true, true, true, true, true, true, true, true, true, false, false, false, false, false, false, false, false, false, false, false, false, false, false, false, false, false, false, false, false, false, false, false, false, false, false, false, false, false, false, false, false, false, false, false, false, false, false, false, false, false, false, false] rfl rfl (by kernel_rfl) (fun _ _ _ h => h) (Or.inl ⟨by rfl, ?_⟩) ?_ ?_
              rotate_left
              · intro w'
                go_simp
                first | with_reducible rfl | (simp [Instr.field, go_sem]; rfl)
              rotate_left
              · simp only [Act.put, List.setIfInBounds_toArray, List.set_cons_zero, List.set_cons_succ]
                rfl
              refine pure_ (i := 16) (N := some 131) (v := ?_) (a' := ?_) #[true, true, true, true, true, true, true, true, true, true, true, true, true, true, true, true, true, false, false, false, false, false, false, false, false, false, false, false, false, false, false, false, false, false, false, false, false, false, false, false, false, false, false, false, false, false, false, false, false, false, false, false, false, false, false, false, false, false, false] rfl rfl (by kernel_rfl) (fun _ _ _ h => h) (Or.inl ⟨by rfl, ?_⟩) ?_ ?_
              rotate_left
              · intro w'
                go_simp
                first | with_reducible rfl | (simp [Instr.field, go_sem]; rfl)
              rotate_left
              · simp only [Act.put, List.setIfInBounds_toArray, List.set_cons_zero, List.set_cons_succ]
                rfl
              refine pure_ (i := 17) (N := some 132) (v := ?_) (a' := ?_) #[true, true, true, true, true, true, true, true, true, true, true, true, true, true, true, true, true, true, false, false, false, false, false, false, false, false, false, false, false, false, false, false, false, false, false, false, false, false, false, false, false, false, false, false, false, false, false, false, false, false, false, false, false, false, false, false, false, false, false] rfl rfl (by kernel_rfl) (fun _ _ _ h => h) (Or.inl ⟨by rfl, ?_⟩) ?_ ?_
              rotate_left
              · intro w'
                go_simp
                first | with_reducible rfl | (simp [Instr.field, go_sem]; rfl)
              rotate_left
              · simp only [Act.put, List.setIfInBounds_toArray, List.set_cons_zero, List.set_cons_succ]
                rfl
              refine pure_ (i := 18) (N := some 133) (v := ?_) (a' := ?_) #[true, true, true, true, true, true, true, true, true, true, true, true, true, true, true, true, true, true, true, false, false, false, false, false, false, false, false, false, false, false, false, false, false, false, false, false, false, false, false, false, false, false, false, false, false, false, false, false, false, false, false, false, false, false, false, false, false, false, false] rfl rfl (by kernel_rfl) (fun _ _ _ h => h) (Or.inl ⟨by rfl, ?_⟩) ?_ ?_
              rotate_left
              · intro w'
                go_simp
                first | with_reducible rfl | (simp [Instr.field, go_sem]; rfl)
              rotate_left
              · simp only [Act.put, List.setIfInBounds_toArray, List.set_cons_zero, List.set_cons_succ]
                rfl
              refine pure_ (i := 19) (N := some 134) (v := ?_) (a' := ?_) #[true, true, true, true, true, true, true, true, true, true, true, true, true, true, true, true, true, true, true, true, false, false, false, false, false, false, false, false, false, false, false, false, false, false, false, false, false, false, false, false, false, false, false, false, false, false, false, false, false, false, false, false, false, false, false, false, false, false, false] rfl rfl (by kernel_rfl) (fun _ _ _ h => h) (Or.inl ⟨by rfl, ?_⟩) ?_ ?_
              rotate_left
              · intro w'
                go_simp
                first | with_reducible rfl | (simp [Instr.field, go_sem]; rfl)
              rotate_left
              · simp only [Act.put, List.setIfInBounds_toArray, List.set_cons_zero, List.set_cons_succ]
                rfl
              refine pure_ (i := 20) (N := some 135) (v := ?_) (a' := ?_) #[true, true, true, true, true, true, true, true, true, true, true, true, true, true, true, true, true, true, true, true, true, false, false, false, false, false, false, false, false, false, false, false, false, false, false, false, false, false, false, false, false, false, false, false, false, false, false, false, false, false, false, false, false, false, false, false, false, false, false] rfl rfl (by kernel_rfl) (fun _ _ _ h => h) (Or.inl ⟨by rfl, ?_⟩) ?_ ?_
              rotate_left
              · intro w'
                go_simp
                first | with_reducible rfl | (simp [Instr.field, go_sem]; rfl)
              rotate_left
              · simp only [Act.put, List.setIfInBounds_toArray, List.set_cons_zero, List.set_cons_succ]
                rfl
              refine pure_ (i := 21) (N := some 136) (v := ?_) (a' := ?_) #[true, true, true, true, true, true, true, true, true, true, true, true, true, true, true, true, true, true, true, true, true, true, false, false, false, false, false, false, false, false, false, false, false, false, false, false, false, false, false, false, false, false, false, false, false, false, false, false, false, false, false, false, false, false, false, false, false, false, false] rfl rfl (by kernel_rfl) (fun _ _ _ h => h) (Or.inl ⟨by rfl, ?_⟩) ?_ ?_
              rotate_left
              · intro w'
                go_simp
                first | with_reducible rfl | (simp [Instr.field, go_sem]; rfl)
              rotate_left
              · simp only [Act.put, List.setIfInBounds_toArray, List.set_cons_zero, List.set_cons_succ]
                rfl
              refine pure_ (i := 22) (N := some 137) (v := ?_) (a' := ?_) #[true, true, true, true, true, true, true, true, true, true, true, true, true, true, true, true, true, true, true, true, true, true, true, false, false, false, false, false, false, false, false, false, false, false, false, false, false, false, false, false, false, false, false, false, false, false, false, false, false, false, false, false, false, false, false, false, false, false, false] rfl rfl (by kernel_rfl) (fun _ _ _ h => h) (Or.inl ⟨by rfl, ?_⟩) ?_ ?_
              rotate_left
              · intro w'
                go_simp
                first | with_reducible rfl | (simp [Instr.field, go_sem]; rfl)
              rotate_left
              · simp only [Act.put, List.setIfInBounds_toArray, List.set_cons_zero, List.set_cons_succ]
                rfl
              refine pure_ (i := 23) (N := some 138) (v := ?_) (a' := ?_) #[true, true, true, true, true, true, true, true, true, true, true, true, true, true, true, true, true, true, true, true, true, true, true, true, false, false, false, false, false, false, false, false, false, false, false, false, false, false, false, false, false, false, false, false, false, false, false, false, false, false, false, false, false, false, false, false, false, false, false] rfl rfl (by kernel_rfl) (fun _ _ _ h => h) (Or.inl ⟨by rfl, ?_⟩) ?_ ?_
              rotate_left
              · intro w'
                go_simp
                first | with_reducible rfl | (simp [Instr.field, go_sem]; rfl)
              rotate_left
              · simp only [Act.put, List.setIfInBounds_toArray, List.set_cons_zero, List.set_cons_succ]
                rfl
              refine pure_ (i := 24) (N := some 139) (v := ?_) (a' := ?_) #[true, true, true, true, true, true, true, true, true, true, true, true, true, true, true, true, true, true, true, true, true, true, true, true, true, false, false, false, false, false, false, false, false, false, false, false, false, false, false, false, false, false, false, false, false, false, false, false, false, false, false, false, false, false, false, false, false, false, false] rfl rfl (by kernel_rfl) (fun _ _ _ h => h) (Or.inl ⟨by rfl, ?_⟩) ?_ ?_
              rotate_left
              · intro w'
                go_simp
                first | with_reducible rfl | (simp [Instr.field, go_sem]; rfl)
              rotate_left
              · simp only [Act.put, List.setIfInBounds_toArray, List.set_cons_zero, List.set_cons_succ]
                rfl
              refine pure_ (i := 25) (N := some 140) (v := ?_) (a' := ?_) #[true, true, true, true, true, true, true, true, true, true, true, true, true, true, true, true, true, true, true, true, true, true, true, true, true, true, false, false, false, false, false, false, false, false, false, false, false, false, false, false, false, false, false, false, false, false, false, false, false, false, false, false, false, false, false, false, false, false, false] rfl rfl (by kernel_rfl) (fun _ _ _ h => h) (Or.inl ⟨by rfl, ?_⟩) ?_ ?_
              rotate_left
              · intro w'
                go_simp
                first | with_reducible rfl | (simp [Instr.field, go_sem]; rfl)
              rotate_left
              · simp only [Act.put, List.setIfInBounds_toArray, List.set_cons_zero, List.set_cons_succ]
                rfl
              refine pure_ (i := 26) (N := some 141) (v := ?_) (a' := ?_) #[true, true, true, true, true, true, true, true, true, true, true, true, true, true, true, true, true, true, true, true, true, true, true, true, true, true, true, false, false, false, false, false, false, false, false, false, false, false, false, false, false, false, false, false, false, false, false, false, false, false, false, false, false, false, false, false, false, false, false] rfl rfl (by kernel_rfl) (fun _ _ _ h => h) (Or.inl ⟨by rfl, ?_⟩) ?_ ?_
              rotate_left
              · intro w'
                go_simp
                first | with_reducible rfl | (simp [Instr.field, go_sem]; rfl)
              rotate_left
              · simp only [Act.put, List.setIfInBounds_toArray, List.set_cons_zero, List.set_cons_succ]
                rfl
              refine pure_ (i := 27) (N := some 142) (v := ?_) (a' := ?_) #[true, true, true, true, true, true, true, true, true, true, true, true, true, true, true, true, true, true, true, true, true, true, true, true, true, true, true, true, false, false, false, false, false, false, false, false, false, false, false, false, false, false, false, false, false, false, false, false, false, false, false, false, false, false, false, false, false, false, false] rfl rfl (by kernel_rfl) (fun _ _ _ h => h) (Or.inl ⟨by rfl, ?_⟩) ?_ ?_
              rotate_left
              · intro w'
                go_simp
                first | with_reducible rfl | (simp [Instr.field, go_sem]; rfl)
              rotate_left
              · simp only [Act.put, List.setIfInBounds_toArray, List.set_cons_zero, List.set_cons_succ]
                rfl
              refine pure_ (i := 28) (N := some 143) (v := ?_) (a' := ?_) #[true, true, true, true, true, true, true, true, true, true, true, true, true, true, true, true, true, true, true, true, true, true, true, true, true, true, true, true, true, false, false, false, false, false, false, false, false, false, false, false, false, false, false, false, false, false, false, false, false, false, false, false, false, false, false, false, false, false, false] rfl rfl (by kernel_rfl) (fun _ _ _ h => h) (Or.inl ⟨by rfl, ?_⟩) ?_ ?_
              rotate_left
              · intro w'
                go_simp
                first | with_reducible rfl | (simp [Instr.field, go_sem]; rfl)
              rotate_left
              · simp only [Act.put, List.setIfInBounds_toArray, List.set_cons_zero, List.set_cons_succ]
                rfl
              refine pure_ (i := 29) (N := some 144) (v := ?_) (a' := ?_) #[true, true, true, true, true, true, true, true, true, true, true, true, true, true, true, true, true, true, true, true, true, true, true, true, true, true, true, true, true, true, false, false, false, false, false, false, false, false, false, false, false, false, false, false, false, false, false, false, false, false, false, false, false, false, false, false, false, false, false] rfl rfl (by kernel_rfl) (fun _ _ _ h => h) (Or.inl ⟨by rfl, ?_⟩) ?_ ?_
              rotate_left
              · intro w'
                go_simp
                first | with_reducible rfl | (simp [Instr.field, go_sem]; rfl)
              rotate_left
              · simp only [Act.put, List.setIfInBounds_toArray, List.set_cons_zero, List.set_cons_succ]
                rfl
              refine one_ (i := 30) (N := some 145) #[true, true, true, true, true, true, true, true, true, true, true, true, true, true, true, true, true, true, true, true, true, true, true, true, true, true, true, true, true, true, true, false, false, false, false, false, false, false, false, false, false, false, false, false, false, false, false, false, false, false, false, false, false, false, false, false, false, false, false] rfl rfl (by kernel_rfl) (by decide) (fun K hK => ?_)
              refine goes_ Try.func18 (by kernel_rfl) rfl #[.slice (some ⟨gb, 1, none⟩) 4 (7 - 1), .slice (some ⟨gs, 0, none⟩) 4 caps] (by rfl) rfl rfl (by (try simp only [List.map_toArray, List.map_cons, List.map_nil]); first | done | rfl) ?_
              refine (Ring.bytesC (n := 4) (Ev.cutB1 HX.out hcb.out) ((Kd.R_reads' HS.out).2.2) (Ev.short_len c) (by have := hcb.out; omega) ((Kd.R_reads' HS.out).2.1) (by omega)).mono ?_
              rintro r w6 ⟨rfl, hb⟩
              refine ⟨_, rfl, ?_⟩
              have HV2 := Aside0.mk (Ev.V_below HV.out hb)
              have HB2 := Aside0.mk (below_step HB.out hb)
              have HX2 := Aside0.mk (Kd.R_below HX.out hb)
              have HS2 := Aside0.mk (Kd.R_below HS.out hb)
              have HE2 := Aside0.mk (Kd.R_below HE.out hb)
              clear HV HB HX HS HE
              have HV := HV2
              have HB := HB2
              have HX := HX2
              have HS := HS2
              have HE := HE2
              clear HV2 HB2 HX2 HS2 HE2
              refine hK.out _ _ (Ev.first HX.out hX0.out) (fun hHeld => ?_)
              clear hK K hb
              refine norm_ (a' := ?_) ?_ ?_
              rotate_left
              · show Act.put _ (some 145) _ = _
                simp only [Act.put, List.setIfInBounds_toArray, List.set_cons_zero, List.set_cons_succ]
                rfl
              refine pure_ (i := 31) (N := some 146) (v := ?_) (a' := ?_) #[true, true, true, true, true, true, true, true, true, true, true, true, true, true, true, true, true, true, true, true, true, true, true, true, true, true, true, true, true, true, true, true, false, false, false, false, false, false, false, false, false, false, false, false, false, false, false, false, false, false, false, false, false, false, false, false, false, false, false] rfl rfl (by kernel_rfl) (fun _ _ _ h => h) (Or.inl ⟨by rfl, ?_⟩) ?_ ?_
              rotate_left
              · intro w'
                go_simp
                first | with_reducible rfl | (simp [Instr.field, go_sem]; rfl)
              rotate_left
              · simp only [Act.put, List.setIfInBounds_toArray, List.set_cons_zero, List.set_cons_succ]
                rfl
              refine pure_ (i := 32) (N := some 147) (v := ?_) (a' := ?_) #[true, true, true, true, true, true, true, true, true, true, true, true, true, true, true, true, true, true, true, true, true, true, true, true, true, true, true, true, true, true, true, true, true, false, false, false, false, false, false, false, false, false, false, false, false, false, false, false, false, false, false, false, false, false, false, false, false, false, false] rfl rfl (by kernel_rfl) (fun _ _ _ h => h) (Or.inl ⟨by rfl, ?_⟩) ?_ ?_
              rotate_left
              · intro w'
                go_simp
                first | with_reducible rfl | (simp [Instr.field, go_sem]; rfl)
              rotate_left
              · simp only [Act.put, List.setIfInBounds_toArray, List.set_cons_zero, List.set_cons_succ]
                rfl
              refine pure_ (i := 33) (N := some 148) (v := ?_) (a' := ?_) #[true, true, true, true, true, true, true, true, true, true, true, true, true, true, true, true, true, true, true, true, true, true, true, true, true, true, true, true, true, true, true, true, true, true, false, false, false, false, false, false, false, false, false, false, false, false, false, false, false, false, false, false, false, false, false, false, false, false, false] rfl rfl (by kernel_rfl) (fun _ _ _ h => h) (Or.inl ⟨by rfl, ?_⟩) ?_ ?_
              rotate_left
              · intro w'
                go_simp
                first | with_reducible rfl | (simp [Instr.field, go_sem]; rfl)
              rotate_left
              · simp only [Act.put, List.setIfInBounds_toArray, List.set_cons_zero, List.set_cons_succ]
                rfl
              refine pure_ (i := 34) (N := some 149) (v := ?_) (a' := ?_) #[true, true, true, true, true, true, true, true, true, true, true, true, true, true, true, true, true, true, true, true, true, true, true, true, true, true, true, true, true, true, true, true, true, true, true, false, false, false, false, false, false, false, false, false, false, false, false, false, false, false, false, false, false, false, false, false, false, false, false] rfl rfl (by kernel_rfl) (fun _ _ _ h => h) (Or.inl ⟨by rfl, ?_⟩) ?_ ?_
              rotate_left
              · intro w'
                go_simp
                first | with_reducible rfl | (simp [Instr.field, go_sem]; rfl)
              rotate_left
              · simp only [Act.put, List.setIfInBounds_toArray, List.set_cons_zero, List.set_cons_succ]
                rfl
              refine pure_ (i := 35) (N := some 150) (v := ?_) (a' := ?_) #[true, true, true, true, true, true, true, true, true, true, true, true, true, true, true, true, true, true, true, true, true, true, true, true, true, true, true, true, true, true, true, true, true, true, true, true, false, false, false, false, false, false, false, false, false, false, false, false, false, false, false, false, false, false, false, false, false, false, false] rfl rfl (by kernel_rfl) (fun _ _ _ h => h) (Or.inl ⟨by rfl, ?_⟩) ?_ ?_
              rotate_left
              · intro w'
                go_simp
                first | with_reducible rfl | (simp [Instr.field, go_sem]; rfl)
              rotate_left
              · simp only [Act.put, List.setIfInBounds_toArray, List.set_cons_zero, List.set_cons_succ]
                rfl
              refine one_ (i := 36) (N := some 151) #[true, true, true, true, true, true, true, true, true, true, true, true, true, true, true, true, true, true, true, true, true, true, true, true, true, true, true, true, true, true, true, true, true, true, true, true, true, false, false, false, false, false, false, false, false, false, false, false, false, false, false, false, false, false, false, false, false, false, false] rfl rfl (by kernel_rfl) (by decide) (fun K hK => ?_)
              refine Kd.R_lit_step (Kd.int .u16) _ 55 ?hg (N := 151) ?hd (xs := ([a1] : List Int)) (inner := [.int .u16 a1]) (ok := fun _ => True) (okp := fun _ => True) ?hr ?hp (fun _ hk => hk) trivial (Below.refl _ _) (Nat.le_refl _) (by simp) ?_
              (case hd => rfl)
              (case hg => rfl)
              (case hr => first | (go_simp; done) | (go_simp; rfl))
              (case hp => exact (Reps.one (show Kd.M (Kd.int .u16) _ _ _ a1 [.int .u16 a1] from rfl) (Reps.none _ _)))
              intro vq w6 ho hb hg_ hnew_
              obtain ⟨Aq, cq, eq⟩ := Kd.R_slice ho
              subst eq
              replace ho : Kd.R (Kd.int .u16) 55 _ _ _ (.slice Aq 1 cq) [a1] := ho
              have HQ := Aside0.mk ho
              clear ho hg_ hnew_
              have HV2 := Aside0.mk (Ev.V_below HV.out hb)
              have HB2 := Aside0.mk (below_step HB.out hb)
              have HX2 := Aside0.mk (Kd.R_below HX.out hb)
              have HS2 := Aside0.mk (Kd.R_below HS.out hb)
              have HE2 := Aside0.mk (Kd.R_below HE.out hb)
              clear HV HB HX HS HE
              have HV := HV2
              have HB := HB2
              have HX := HX2
              have HS := HS2
              have HE := HE2
              clear HV2 HB2 HX2 HS2 HE2
              refine hK.out _ _ (Ev.first HX.out hX0.out) (fun hHeld => ?_)
              clear hK K hb
              refine norm_ (a' := ?_) ?_ ?_
              rotate_left
              · show Act.put _ (some 151) _ = _
                simp only [Act.put, List.setIfInBounds_toArray, List.set_cons_zero, List.set_cons_succ]
                rfl
              refine one_ (i := 37) (N := some 152) #[true, true, true, true, true, true, true, true, true, true, true, true, true, true, true, true, true, true, true, true, true, true, true, true, true, true, true, true, true, true, true, true, true, true, true, true, true, true, false, false, false, false, false, false, false, false, false, false, false, false, false, false, false, false, false, false, false, false, false] rfl rfl (by kernel_rfl) (by decide) (fun K hK => ?_)
              refine goes_ Try.func54 (by kernel_rfl) rfl #[.slice Aq 1 cq] (by rfl) rfl rfl (by (try simp only [List.map_toArray, List.map_cons, List.map_nil]); first | done | rfl) ?_
              refine (bilgeref01_Put.calls 3 _ _ [a1] _ _ (Kd.R_reads' HQ.out).2.2 (Kd.R_reads' HQ.out).2.1 (Ev.rp1 ⟨k2, k3⟩)).mono ?_
              rintro r w6 ⟨v1, rfl, ho, hb⟩
              refine ⟨_, rfl, ?_⟩
              clear HQ
              obtain ⟨Ap, Apc, Ape⟩ := Kd.R_slice ho
              subst Ape
              replace ho : Kd.R (Kd.int .u8) 5 _ _ _ (.slice Ap 2 Apc) (word_Put.bs a1) := ho
              have HP := Aside0.mk (Kd.R_lower ho (below_size HB.out))
              clear ho
              have HV2 := Aside0.mk (Ev.V_below HV.out hb)
              have HB2 := Aside0.mk (below_step HB.out hb)
              have HX2 := Aside0.mk (Kd.R_below HX.out hb)
              have HS2 := Aside0.mk (Kd.R_below HS.out hb)
              have HE2 := Aside0.mk (Kd.R_below HE.out hb)
              clear HV HB HX HS HE
              have HV := HV2
              have HB := HB2
              have HX := HX2
              have HS := HS2
              have HE := HE2
              clear HV2 HB2 HX2 HS2 HE2
              refine hK.out _ _ (Ev.first HX.out hX0.out) (fun hHeld => ?_)
              clear hK K hb
              refine norm_ (a' := ?_) ?_ ?_
              rotate_left
              · show Act.put _ (some 152) _ = _
                simp only [Act.put, List.setIfInBounds_toArray, List.set_cons_zero, List.set_cons_succ]
                rfl
              refine one_ (i := 38) (N := some 153) #[true, true, true, true, true, true, true, true, true, true, true, true, true, true, true, true, true, true, true, true, true, true, true, true, true, true, true, true, true, true, true, true, true, true, true, true, true, true, true, false, false, false, false, false, false, false, false, false, false, false, false, false, false, false, false, false, false, false, false] rfl rfl (by kernel_rfl) (by decide) (fun K hK => ?_)
              refine goes_ Try.func18 (by kernel_rfl) rfl #[.slice (some ⟨gb, 5, none⟩) 2 (7 - 5), .slice Ap 2 Apc] (by rfl) rfl rfl (by (try simp only [List.map_toArray, List.map_cons, List.map_nil]); first | done | rfl) ?_
              refine (Ring.bytesC (n := 2) (Ev.cutB5 HX.out hcb.out) ((Kd.R_reads' HP.out).2.2) (rfl) (by have := hcb.out; omega) ((Kd.R_reads' HP.out).2.1) (by omega)).mono ?_
              rintro r w6 ⟨rfl, hb⟩
              refine ⟨_, rfl, ?_⟩
              have HV2 := Aside0.mk (Ev.V_below HV.out hb)
              have HB2 := Aside0.mk (below_step HB.out hb)
              have HX2 := Aside0.mk (Kd.R_below HX.out hb)
              have HS2 := Aside0.mk (Kd.R_below HS.out hb)
              have HE2 := Aside0.mk (Kd.R_below HE.out hb)
              clear HV HB HX HS HE
              have HV := HV2
              have HB := HB2
              have HX := HX2
              have HS := HS2
              have HE := HE2
              clear HV2 HB2 HX2 HS2 HE2
              refine hK.out _ _ (Ev.first HX.out hX0.out) (fun hHeld => ?_)
              clear hK K hb
              refine norm_ (a' := ?_) ?_ ?_
              rotate_left
              · show Act.put _ (some 153) _ = _
                simp only [Act.put, List.setIfInBounds_toArray, List.set_cons_zero, List.set_cons_succ]
                rfl
              refine pure_ (i := 39) (N := some 154) (v := ?_) (a' := ?_) #[true, true, true, true, true, true, true, true, true, true, true, true, true, true, true, true, true, true, true, true, true, true, true, true, true, true, true, true, true, true, true, true, true, true, true, true, true, true, true, true, false, false, false, false, false, false, false, false, false, false, false, false, false, false, false, false, false, false, false] rfl rfl (by kernel_rfl) (fun _ _ _ h => h) (Or.inl ⟨by rfl, ?_⟩) ?_ ?_
              rotate_left
              · intro w'
                go_simp
                first | with_reducible rfl | (simp [Instr.field, go_sem]; rfl)
              rotate_left
              · simp only [Act.put, List.setIfInBounds_toArray, List.set_cons_zero, List.set_cons_succ]
                rfl
              refine pure_ (i := 40) (N := some 155) (v := ?_) (a' := ?_) #[true, true, true, true, true, true, true, true, true, true, true, true, true, true, true, true, true, true, true, true, true, true, true, true, true, true, true, true, true, true, true, true, true, true, true, true, true, true, true, true, true, false, false, false, false, false, false, false, false, false, false, false, false, false, false, false, false, false, false] rfl rfl (by kernel_rfl) (fun _ _ _ h => h) (Or.inl ⟨by rfl, ?_⟩) ?_ ?_
              rotate_left
              · intro w'
                go_simp
                first | with_reducible rfl | (simp [Instr.field, go_sem]; rfl)
              rotate_left
              · simp only [Act.put, List.setIfInBounds_toArray, List.set_cons_zero, List.set_cons_succ]
                rfl
              refine pure_ (i := 41) (N := some 156) (v := ?_) (a' := ?_) #[true, true, true, true, true, true, true, true, true, true, true, true, true, true, true, true, true, true, true, true, true, true, true, true, true, true, true, true, true, true, true, true, true, true, true, true, true, true, true, true, true, true, false, false, false, false, false, false, false, false, false, false, false, false, false, false, false, false, false] rfl rfl (by kernel_rfl) (fun _ _ _ h => h) (Or.inl ⟨by rfl, ?_⟩) ?_ ?_
              rotate_left
              · intro w'
                go_simp
                first | with_reducible rfl | (simp [Instr.field, go_sem]; rfl)
              rotate_left
              · simp only [Act.put, List.setIfInBounds_toArray, List.set_cons_zero, List.set_cons_succ]
                rfl
              refine pure_ (i := 42) (N := some 157) (v := ?_) (a' := ?_) #[true, true, true, true, true, true, true, true, true, true, true, true, true, true, true, true, true, true, true, true, true, true, true, true, true, true, true, true, true, true, true, true, true, true, true, true, true, true, true, true, true, true, true, false, false, false, false, false, false, false, false, false, false, false, false, false, false, false, false] rfl rfl (by kernel_rfl) (fun _ _ _ h => h) (Or.inl ⟨by rfl, ?_⟩) ?_ ?_
              rotate_left
              · intro w'
                go_simp
                first | with_reducible rfl | (simp [Instr.field, go_sem]; rfl)
              rotate_left
              · simp only [Act.put, List.setIfInBounds_toArray, List.set_cons_zero, List.set_cons_succ]
                rfl
              refine pure_ (i := 43) (N := some 158) (v := ?_) (a' := ?_) #[true, true, true, true, true, true, true, true, true, true, true, true, true, true, true, true, true, true, true, true, true, true, true, true, true, true, true, true, true, true, true, true, true, true, true, true, true, true, true, true, true, true, true, true, false, false, false, false, false, false, false, false, false, false, false, false, false, false, false] rfl rfl (by kernel_rfl) (fun _ _ _ h => h) (Or.inl ⟨by rfl, ?_⟩) ?_ ?_
              rotate_left
              · intro w'
                go_simp
                first | with_reducible rfl | (simp [Instr.field, go_sem]; rfl)
              rotate_left
              · simp only [Act.put, List.setIfInBounds_toArray, List.set_cons_zero, List.set_cons_succ]
                rfl
              refine one_ (i := 44) (N := some 159) #[true, true, true, true, true, true, true, true, true, true, true, true, true, true, true, true, true, true, true, true, true, true, true, true, true, true, true, true, true, true, true, true, true, true, true, true, true, true, true, true, true, true, true, true, true, false, false, false, false, false, false, false, false, false, false, false, false, false, false] rfl rfl (by kernel_rfl) (by decide) (fun K hK => ?_)
              refine goes_ Try.func18 (by kernel_rfl) rfl #[.slice (some ⟨gb, 0, none⟩) 0 0, .slice Ae L.length ce] (by rfl) rfl rfl (by (try simp only [List.map_toArray, List.map_cons, List.map_nil]); first | done | rfl) ?_
              rw [show (Value.slice (some ⟨gb, 0, none⟩) 0 0) = Value.slice (some ⟨gb, 0, none⟩) L.length L.length by rw [hL0.out]]
              refine (Ring.bytesC (n := L.length) (by have z := Ev.cutB7 HX.out hcb.out; rwa [if_pos rfl] at z) ((Kd.R_reads' HE.out).2.2) (rfl) (by have := hcb.out; omega) ((Kd.R_reads' HE.out).2.1) (by omega)).mono ?_
              rintro r w6 ⟨rfl, hb⟩
              refine ⟨_, rfl, ?_⟩
              have HV2 := Aside0.mk (Ev.V_below HV.out hb)
              have HB2 := Aside0.mk (below_step HB.out hb)
              have HX2 := Aside0.mk (Kd.R_below HX.out hb)
              have HS2 := Aside0.mk (Kd.R_below HS.out hb)
              have HE2 := Aside0.mk (Kd.R_below HE.out hb)
              clear HV HB HX HS HE
              have HV := HV2
              have HB := HB2
              have HX := HX2
              have HS := HS2
              have HE := HE2
              clear HV2 HB2 HX2 HS2 HE2
              refine hK.out _ _ (Ev.first HX.out hX0.out) (fun hHeld => ?_)
              clear hK K hb
              refine norm_ (a' := ?_) ?_ ?_
              rotate_left
              · show Act.put _ (some 159) _ = _
                simp only [Act.put, List.setIfInBounds_toArray, List.set_cons_zero, List.set_cons_succ]
                rfl
              refine pure_ (i := 45) (N := some 160) (v := ?_) (a' := ?_) #[true, true, true, true, true, true, true, true, true, true, true, true, true, true, true, true, true, true, true, true, true, true, true, true, true, true, true, true, true, true, true, true, true, true, true, true, true, true, true, true, true, true, true, true, true, true, false, false, false, false, false, false, false, false, false, false, false, false, false] rfl rfl (by kernel_rfl) (fun _ _ _ h => h) (Or.inl ⟨by rfl, ?_⟩) ?_ ?_
              rotate_left
              · intro w'
                go_simp
                first | with_reducible rfl | (simp [Instr.field, go_sem]; rfl)
              rotate_left
              · simp only [Act.put, List.setIfInBounds_toArray, List.set_cons_zero, List.set_cons_succ]
                rfl
              refine pure_ (i := 46) (N := some 161) (v := ?_) (a' := ?_) #[true, true, true, true, true, true, true, true, true, true, true, true, true, true, true, true, true, true, true, true, true, true, true, true, true, true, true, true, true, true, true, true, true, true, true, true, true, true, true, true, true, true, true, true, true, true, true, false, false, false, false, false, false, false, false, false, false, false, false] rfl rfl (by kernel_rfl) (fun _ _ _ h => h) (Or.inl ⟨by rfl, ?_⟩) ?_ ?_
              rotate_left
              · intro w'
                go_simp
                first | with_reducible rfl | (simp [Instr.field, go_sem]; rfl)
              rotate_left
              · simp only [Act.put, List.setIfInBounds_toArray, List.set_cons_zero, List.set_cons_succ]
                rfl
              refine pure_ (i := 47) (N := some 162) (v := ?_) (a' := ?_) #[true, true, true, true, true, true, true, true, true, true, true, true, true, true, true, true, true, true, true, true, true, true, true, true, true, true, true, true, true, true, true, true, true, true, true, true, true, true, true, true, true, true, true, true, true, true, true, true, false, false, false, false, false, false, false, false, false, false, false] rfl rfl (by kernel_rfl) (fun _ _ _ h => h) (Or.inl ⟨by rfl, ?_⟩) ?_ ?_
              rotate_left
              · intro w'
                go_simp
                first | with_reducible rfl | (simp [Instr.field, go_sem]; rfl)
              rotate_left
              · simp only [Act.put, List.setIfInBounds_toArray, List.set_cons_zero, List.set_cons_succ]
                rfl
              refine pure_ (i := 48) (N := some 163) (v := ?_) (a' := ?_) #[true, true, true, true, true, true, true, true, true, true, true, true, true, true, true, true, true, true, true, true, true, true, true, true, true, true, true, true, true, true, true, true, true, true, true, true, true, true, true, true, true, true, true, true, true, true, true, true, true, false, false, false, false, false, false, false, false, false, false] rfl rfl (by kernel_rfl) (fun _ _ _ h => h) (Or.inl ⟨by rfl, ?_⟩) ?_ ?_
              rotate_left
              · intro w'
                go_simp
                first | with_reducible rfl | (simp [Instr.field, go_sem]; rfl)
              rotate_left
              · simp only [Act.put, List.setIfInBounds_toArray, List.set_cons_zero, List.set_cons_succ]
                rfl
              refine pure_ (i := 49) (N := some 164) (v := ?_) (a' := ?_) #[true, true, true, true, true, true, true, true, true, true, true, true, true, true, true, true, true, true, true, true, true, true, true, true, true, true, true, true, true, true, true, true, true, true, true, true, true, true, true, true, true, true, true, true, true, true, true, true, true, true, false, false, false, false, false, false, false, false, false] rfl rfl (by kernel_rfl) (fun _ _ _ h => h) (Or.inl ⟨by rfl, ?_⟩) ?_ ?_
              rotate_left
              · intro w'
                go_simp
                first | with_reducible rfl | (simp [Instr.field, go_sem]; rfl)
              rotate_left
              · simp only [Act.put, List.setIfInBounds_toArray, List.set_cons_zero, List.set_cons_succ]
                rfl
              refine one_ (i := 50) (N := some 165) #[true, true, true, true, true, true, true, true, true, true, true, true, true, true, true, true, true, true, true, true, true, true, true, true, true, true, true, true, true, true, true, true, true, true, true, true, true, true, true, true, true, true, true, true, true, true, true, true, true, true, true, false, false, false, false, false, false, false, false] rfl rfl (by kernel_rfl) (by decide) (fun K hK => ?_)
              refine goes_ Try.func55 (by kernel_rfl) rfl #[.pointer (some ⟨e, 0, none⟩)] (by rfl) rfl rfl (by (try simp only [List.map_toArray, List.map_cons, List.map_nil]); first | done | rfl) ?_
              refine (Ev.count_ok HV.out).mono ?_
              rintro r w6 ⟨rfl, hb⟩
              refine ⟨_, rfl, ?_⟩
              have HV2 := Aside0.mk (Ev.V_below HV.out hb)
              have HB2 := Aside0.mk (below_step HB.out hb)
              have HX2 := Aside0.mk (Kd.R_below HX.out hb)
              have HS2 := Aside0.mk (Kd.R_below HS.out hb)
              have HE2 := Aside0.mk (Kd.R_below HE.out hb)
              clear HV HB HX HS HE
              have HV := HV2
              have HB := HB2
              have HX := HX2
              have HS := HS2
              have HE := HE2
              clear HV2 HB2 HX2 HS2 HE2
              refine hK.out _ _ (Ev.first HX.out hX0.out) (fun hHeld => ?_)
              clear hK K hb
              refine norm_ (a' := ?_) ?_ ?_
              rotate_left
              · show Act.put _ (some 165) _ = _
                simp only [Act.put, List.setIfInBounds_toArray, List.set_cons_zero, List.set_cons_succ]
                rfl
              refine one_ (i := 51) (N := some 166) #[true, true, true, true, true, true, true, true, true, true, true, true, true, true, true, true, true, true, true, true, true, true, true, true, true, true, true, true, true, true, true, true, true, true, true, true, true, true, true, true, true, true, true, true, true, true, true, true, true, true, true, true, false, false, false, false, false, false, false] rfl rfl (by kernel_rfl) (by decide) (fun K hK => ?_)
              refine Kd.R_lit_step (Kd.int .u16) _ 55 ?hg (N := 166) ?hd (xs := ([c] : List Int)) (inner := [.int .u16 c]) (ok := fun _ => True) (okp := fun _ => True) ?hr ?hp (fun _ hk => hk) trivial (Below.refl _ _) (Nat.le_refl _) (by simp) ?_
              (case hd => rfl)
              (case hg => rfl)
              (case hr => first | (go_simp; done) | (go_simp; rfl))
              (case hp => exact (Reps.one (show Kd.M (Kd.int .u16) _ _ _ c [.int .u16 c] from rfl) (Reps.none _ _)))
              intro vq w6 ho hb hg_ hnew_
              obtain ⟨Aq, cq, eq⟩ := Kd.R_slice ho
              subst eq
              replace ho : Kd.R (Kd.int .u16) 55 _ _ _ (.slice Aq 1 cq) [c] := ho
              have HQ := Aside0.mk ho
              clear ho hg_ hnew_
              have HV2 := Aside0.mk (Ev.V_below HV.out hb)
              have HB2 := Aside0.mk (below_step HB.out hb)
              have HX2 := Aside0.mk (Kd.R_below HX.out hb)
              have HS2 := Aside0.mk (Kd.R_below HS.out hb)
              have HE2 := Aside0.mk (Kd.R_below HE.out hb)
              clear HV HB HX HS HE
              have HV := HV2
              have HB := HB2
              have HX := HX2
              have HS := HS2
              have HE := HE2
              clear HV2 HB2 HX2 HS2 HE2
              refine hK.out _ _ (Ev.first HX.out hX0.out) (fun hHeld => ?_)
              clear hK K hb
              refine norm_ (a' := ?_) ?_ ?_
              rotate_left
              · show Act.put _ (some 166) _ = _
                simp only [Act.put, List.setIfInBounds_toArray, List.set_cons_zero, List.set_cons_succ]
                rfl
              refine one_ (i := 52) (N := some 167) #[true, true, true, true, true, true, true, true, true, true, true, true, true, true, true, true, true, true, true, true, true, true, true, true, true, true, true, true, true, true, true, true, true, true, true, true, true, true, true, true, true, true, true, true, true, true, true, true, true, true, true, true, true, false, false, false, false, false, false] rfl rfl (by kernel_rfl) (by decide) (fun K hK => ?_)
              refine goes_ Try.func54 (by kernel_rfl) rfl #[.slice Aq 1 cq] (by rfl) rfl rfl (by (try simp only [List.map_toArray, List.map_cons, List.map_nil]); first | done | rfl) ?_
              refine (bilgeref01_Put.calls 3 _ _ [c] _ _ (Kd.R_reads' HQ.out).2.2 (Kd.R_reads' HQ.out).2.1 (Ev.rp1 HC.out)).mono ?_
              rintro r w6 ⟨v1, rfl, ho, hb⟩
              refine ⟨_, rfl, ?_⟩
              clear HQ
              obtain ⟨Ap, Apc, Ape⟩ := Kd.R_slice ho
              subst Ape
              replace ho : Kd.R (Kd.int .u8) 5 _ _ _ (.slice Ap 2 Apc) (word_Put.bs c) := ho
              have HP := Aside0.mk (Kd.R_lower ho (below_size HB.out))
              clear ho
              have HV2 := Aside0.mk (Ev.V_below HV.out hb)
              have HB2 := Aside0.mk (below_step HB.out hb)
              have HX2 := Aside0.mk (Kd.R_below HX.out hb)
              have HS2 := Aside0.mk (Kd.R_below HS.out hb)
              have HE2 := Aside0.mk (Kd.R_below HE.out hb)
              clear HV HB HX HS HE
              have HV := HV2
              have HB := HB2
              have HX := HX2
              have HS := HS2
              have HE := HE2
              clear HV2 HB2 HX2 HS2 HE2
              refine hK.out _ _ (Ev.first HX.out hX0.out) (fun hHeld => ?_)
              clear hK K hb
              refine norm_ (a' := ?_) ?_ ?_
              rotate_left
              · show Act.put _ (some 167) _ = _
                simp only [Act.put, List.setIfInBounds_toArray, List.set_cons_zero, List.set_cons_succ]
                rfl
              refine one_ (i := 53) (N := some 168) #[true, true, true, true, true, true, true, true, true, true, true, true, true, true, true, true, true, true, true, true, true, true, true, true, true, true, true, true, true, true, true, true, true, true, true, true, true, true, true, true, true, true, true, true, true, true, true, true, true, true, true, true, true, true, false, false, false, false, false] rfl rfl (by kernel_rfl) (by decide) (fun K hK => ?_)
              refine goes_ Try.func18 (by kernel_rfl) rfl #[.slice (some ⟨gs, 2, none⟩) 2 (caps - 2), .slice Ap 2 Apc] (by rfl) rfl rfl (by (try simp only [List.map_toArray, List.map_cons, List.map_nil]); first | done | rfl) ?_
              refine (Ring.bytesC (n := 2) (Ev.cutS2 HS.out) ((Kd.R_reads' HP.out).2.2) (rfl) (by have := (Kd.R_reads' HS.out).2.1; omega) ((Kd.R_reads' HP.out).2.1) (by omega)).mono ?_
              rintro r w6 ⟨rfl, hb⟩
              refine ⟨_, rfl, ?_⟩
              have HV2 := Aside0.mk (Ev.V_below HV.out hb)
              have HB2 := Aside0.mk (below_step HB.out hb)
              have HX2 := Aside0.mk (Kd.R_below HX.out hb)
              have HS2 := Aside0.mk (Kd.R_below HS.out hb)
              have HE2 := Aside0.mk (Kd.R_below HE.out hb)
              clear HV HB HX HS HE
              have HV := HV2
              have HB := HB2
              have HX := HX2
              have HS := HS2
              have HE := HE2
              clear HV2 HB2 HX2 HS2 HE2
              refine hK.out _ _ (Ev.first HX.out hX0.out) (fun hHeld => ?_)
              clear hK K hb
              refine norm_ (a' := ?_) ?_ ?_
              rotate_left
              · show Act.put _ (some 168) _ = _
                simp only [Act.put, List.setIfInBounds_toArray, List.set_cons_zero, List.set_cons_succ]
                rfl
              refine pure_ (i := 54) (N := some 169) (v := ?_) (a' := ?_) #[true, true, true, true, true, true, true, true, true, true, true, true, true, true, true, true, true, true, true, true, true, true, true, true, true, true, true, true, true, true, true, true, true, true, true, true, true, true, true, true, true, true, true, true, true, true, true, true, true, true, true, true, true, true, true, false, false, false, false] rfl rfl (by kernel_rfl) (fun _ _ _ h => h) (Or.inl ⟨by rfl, ?_⟩) ?_ ?_
              rotate_left
              · intro w'
                go_simp
                first | with_reducible rfl | (simp [Instr.field, go_sem]; rfl)
              rotate_left
              · simp only [Act.put, List.setIfInBounds_toArray, List.set_cons_zero, List.set_cons_succ]
                rfl
              refine pure_ (i := 55) (N := some 170) (v := ?_) (a' := ?_) #[true, true, true, true, true, true, true, true, true, true, true, true, true, true, true, true, true, true, true, true, true, true, true, true, true, true, true, true, true, true, true, true, true, true, true, true, true, true, true, true, true, true, true, true, true, true, true, true, true, true, true, true, true, true, true, true, false, false, false] rfl rfl (by kernel_rfl) (fun _ _ _ h => h) (Or.inl ⟨by rfl, ?_⟩) ?_ ?_
              rotate_left
              · intro w'
                go_simp
                first | with_reducible rfl | (simp [Instr.field, go_sem]; rfl)
              rotate_left
              · simp only [Act.put, List.setIfInBounds_toArray, List.set_cons_zero, List.set_cons_succ]
                rfl
              refine one_ (i := 56) (N := some 171) #[true, true, true, true, true, true, true, true, true, true, true, true, true, true, true, true, true, true, true, true, true, true, true, true, true, true, true, true, true, true, true, true, true, true, true, true, true, true, true, true, true, true, true, true, true, true, true, true, true, true, true, true, true, true, true, true, true, false, false] rfl rfl (by kernel_rfl) (by decide) (fun K hK => ?_)
              refine goes_ Try.func45 (by kernel_rfl) rfl #[] (by rfl) rfl rfl (by (try simp only [List.map_toArray, List.map_cons, List.map_nil]); first | done | rfl) ?_
              refine Ev.sure.mono ?_
              rintro r w6 ⟨rfl, hb⟩
              refine ⟨_, rfl, ?_⟩
              have HV2 := Aside0.mk (Ev.V_below HV.out hb)
              have HB2 := Aside0.mk (below_step HB.out hb)
              have HX2 := Aside0.mk (Kd.R_below HX.out hb)
              have HS2 := Aside0.mk (Kd.R_below HS.out hb)
              have HE2 := Aside0.mk (Kd.R_below HE.out hb)
              clear HV HB HX HS HE
              have HV := HV2
              have HB := HB2
              have HX := HX2
              have HS := HS2
              have HE := HE2
              clear HV2 HB2 HX2 HS2 HE2
              refine hK.out _ _ (Ev.first HX.out hX0.out) (fun hHeld => ?_)
              clear hK K hb
              refine norm_ (a' := ?_) ?_ ?_
              rotate_left
              · show Act.put _ (some 171) _ = _
                simp only [Act.put, List.setIfInBounds_toArray, List.set_cons_zero, List.set_cons_succ]
                rfl
              refine pure_ (i := 57) (N := some 172) (v := ?_) (a' := ?_) #[true, true, true, true, true, true, true, true, true, true, true, true, true, true, true, true, true, true, true, true, true, true, true, true, true, true, true, true, true, true, true, true, true, true, true, true, true, true, true, true, true, true, true, true, true, true, true, true, true, true, true, true, true, true, true, true, true, true, false] rfl rfl (by kernel_rfl) (fun _ _ _ h => h) (Or.inl ⟨by rfl, ?_⟩) ?_ ?_
              rotate_left
              · intro w'
                go_simp
                first | with_reducible rfl | (simp [Instr.field, go_sem]; rfl)
              rotate_left
              · simp only [Act.put, List.setIfInBounds_toArray, List.set_cons_zero, List.set_cons_succ]
                rfl
              refine pure_ (i := 58) (N := some 4) (v := ?_) (a' := ?_) #[true, true, true, true, true, true, true, true, true, true, true, true, true, true, true, true, true, true, true, true, true, true, true, true, true, true, true, true, true, true, true, true, true, true, true, true, true, true, true, true, true, true, true, true, true, true, true, true, true, true, true, true, true, true, true, true, true, true, true] rfl rfl (by kernel_rfl) (fun _ _ _ h => h) (Or.inl ⟨by rfl, ?_⟩) ?_ ?_
              rotate_left
              · intro w'
                go_simp
                first | with_reducible rfl | (simp [Instr.field, go_sem]; rfl)
              rotate_left
              · simp only [Act.put, List.setIfInBounds_toArray, List.set_cons_zero, List.set_cons_succ]
                rfl
              refine done_ (by kernel_rfl) ?_
              go_wp2
              go_ret
              exact ⟨rfl, HB.out⟩
          · go_wp2
            as_aux_lemma =>
              refine start_ (n := 59) (S := fun w' => w'.cell? ⟨gb, 0, none⟩ = some (.int .u8 (6 + (L.length : Int)))) (ds := []) #[false, false, false, false, false, false, false, false, false, false, false, false, false, false, false, false, false, false, false, false, false, false, false, false, false, false, false, false, false, false, false, false, false, false, false, false, false, false, false, false, false, false, false, false, false, false, false, false, false, false, false, false, false, false, false, false, false, false, false] (by kernel_rfl) rfl rfl (Ev.first HX.out hX0.out) (fun hHeld => ?_)
              have HV2 : Aside0 (Ev.V wz.drew w.heap.size e g L c) := ⟨HV.out⟩
              have HX2 : Aside0 (Kd.R (Kd.int .u8) 5 wz.drew w.heap.size (fun _ => True) (.slice (some ⟨gb, 0, none⟩) (L.length + 7) capb) (Ev.long L c a1)) := ⟨HX.out⟩
              have HS2 : Aside0 (Kd.R (Kd.int .u8) 5 wz.drew w.heap.size (fun _ => True) (.slice (some ⟨gs, 0, none⟩) 4 caps) (Ev.short c)) := ⟨HS.out⟩
              have HE2 : Aside0 (Kd.R (Kd.int .u8) 5 wz.drew w.heap.size (fun _ => True) (.slice Ae L.length ce) L) := ⟨HE.out⟩
              have HB2 : Aside0 (Below w.heap.size w wz.drew) := ⟨below_drew1 HB.out⟩
              clear HV HX HS HE HB
              have HV := HV2
              have HX := HX2
              have HS := HS2
              have HE := HE2
              have HB := HB2
              clear HV2 HX2 HS2 HE2 HB2
              generalize wz.drew = wd at HV HX HS HE HB hHeld ⊢
              refine pure_ (i := 0) (N := some 115) (v := ?_) (a' := ?_) #[true, false, false, false, false, false, false, false, false, false, false, false, false, false, false, false, false, false, false, false, false, false, false, false, false, false, false, false, false, false, false, false, false, false, false, false, false, false, false, false, false, false, false, false, false, false, false, false, false, false, false, false, false, false, false, false, false, false, false] rfl rfl (by kernel_rfl) (fun _ _ _ h => h) (Or.inl ⟨by rfl, ?_⟩) ?_ ?_
              rotate_left
              · intro w'
                go_simp
                first | with_reducible rfl | (simp [Instr.field, go_sem]; rfl)
              rotate_left
              · simp only [Act.put, List.setIfInBounds_toArray, List.set_cons_zero, List.set_cons_succ]
                rfl
              refine pure_ (i := 1) (N := some 116) (v := ?_) (a' := ?_) #[true, true, false, false, false, false, false, false, false, false, false, false, false, false, false, false, false, false, false, false, false, false, false, false, false, false, false, false, false, false, false, false, false, false, false, false, false, false, false, false, false, false, false, false, false, false, false, false, false, false, false, false, false, false, false, false, false, false, false] rfl rfl (by kernel_rfl) (fun _ _ _ h => h) (Or.inl ⟨by rfl, ?_⟩) ?_ ?_
              rotate_left
              · intro w'
                go_simp
                first | with_reducible rfl | (simp [Instr.field, go_sem]; rfl)
              rotate_left
              · simp only [Act.put, List.setIfInBounds_toArray, List.set_cons_zero, List.set_cons_succ]
                rfl
              refine pure_ (i := 2) (N := some 117) (v := ?_) (a' := ?_) #[true, true, true, false, false, false, false, false, false, false, false, false, false, false, false, false, false, false, false, false, false, false, false, false, false, false, false, false, false, false, false, false, false, false, false, false, false, false, false, false, false, false, false, false, false, false, false, false, false, false, false, false, false, false, false, false, false, false, false] rfl rfl (by kernel_rfl) (fun _ _ _ h => h) (Or.inl ⟨by rfl, ?_⟩) ?_ ?_
              rotate_left
              · intro w'
                go_simp
                first | with_reducible rfl | (simp [Instr.field, go_sem]; rfl)
              rotate_left
              · simp only [Act.put, List.setIfInBounds_toArray, List.set_cons_zero, List.set_cons_succ]
                rfl
              refine pure_ (i := 3) (N := some 118) (v := ?_) (a' := ?_) #[true, true, true, true, false, false, false, false, false, false, false, false, false, false, false, false, false, false, false, false, false, false, false, false, false, false, false, false, false, false, false, false, false, false, false, false, false, false, false, false, false, false, false, false, false, false, false, false, false, false, false, false, false, false, false, false, false, false, false] rfl rfl (by kernel_rfl) (fun _ _ _ h => h) (Or.inl ⟨by rfl, ?_⟩) ?_ ?_
              rotate_left
              · intro w'
                go_simp
                first | with_reducible rfl | (simp [Instr.field, go_sem]; rfl)
              rotate_left
              · simp only [Act.put, List.setIfInBounds_toArray, List.set_cons_zero, List.set_cons_succ]
                rfl
              refine pure_ (i := 4) (N := some 119) (v := ?_) (a' := ?_) #[true, true, true, true, true, false, false, false, false, false, false, false, false, false, false, false, false, false, false, false, false, false, false, false, false, false, false, false, false, false, false, false, false, false, false, false, false, false, false, false, false, false, false, false, false, false, false, false, false, false, false, false, false, false, false, false, false, false, false] rfl rfl (by kernel_rfl) (fun _ _ _ h => h) (Or.inl ⟨by rfl, ?_⟩) ?_ ?_
              rotate_left
              · intro w'
                go_simp
                first | with_reducible rfl | (simp [Instr.field, go_sem]; rfl)
              rotate_left
              · simp only [Act.put, List.setIfInBounds_toArray, List.set_cons_zero, List.set_cons_succ]
                rfl
              refine pure_ (i := 5) (N := some 120) (v := ?_) (a' := ?_) #[true, true, true, true, true, true, false, false, false, false, false, false, false, false, false, false, false, false, false, false, false, false, false, false, false, false, false, false, false, false, false, false, false, false, false, false, false, false, false, false, false, false, false, false, false, false, false, false, false, false, false, false, false, false, false, false, false, false, false] rfl rfl (by kernel_rfl) (fun _ _ _ h => h) (Or.inl ⟨by rfl, ?_⟩) ?_ ?_
              rotate_left
              · intro w'
                go_simp
                first | with_reducible rfl | (simp [Instr.field, go_sem]; rfl)
              rotate_left
              · simp only [Act.put, List.setIfInBounds_toArray, List.set_cons_zero, List.set_cons_succ]
                rfl
              refine pure_ (i := 6) (N := some 121) (v := ?_) (a' := ?_) #[true, true, true, true, true, true, true, false, false, false, false, false, false, false, false, false, false, false, false, false, false, false, false, false, false, false, false, false, false, false, false, false, false, false, false, false, false, false, false, false, false, false, false, false, false, false, false, false, false, false, false, false, false, false, false, false, false, false, false] rfl rfl (by kernel_rfl) (fun _ _ _ h => h) (Or.inl ⟨by rfl, ?_⟩) ?_ ?_
              rotate_left
              · intro w'
                go_simp
                first | with_reducible rfl | (simp [Instr.field, go_sem]; rfl)
              rotate_left
              · simp only [Act.put, List.setIfInBounds_toArray, List.set_cons_zero, List.set_cons_succ]
                rfl
              refine pure_ (i := 7) (N := some 122) (v := ?_) (a' := ?_) #[true, true, true, true, true, true, true, true, false, false, false, false, false, false, false, false, false, false, false, false, false, false, false, false, false, false, false, false, false, false, false, false, false, false, false, false, false, false, false, false, false, false, false, false, false, false, false, false, false, false, false, false, false, false, false, false, false, false, false] rfl rfl (by kernel_rfl) (fun _ _ _ h => h) (Or.inl ⟨by rfl, ?_⟩) ?_ ?_
              rotate_left
              · intro w'
                go_simp
                first | with_reducible rfl | (simp [Instr.field, go_sem]; rfl)
              rotate_left
              · simp only [Act.put, List.setIfInBounds_toArray, List.set_cons_zero, List.set_cons_succ]
                rfl
              refine pure_ (i := 8) (N := some 123) (v := ?_) (a' := ?_) #[true, true, true, true, true, true, true, true, true, false, false, false, false, false, false, false, false, false, false, false, false, false, false, false, false, false, false, false, false, false, false, false, false, false, false, false, false, false, false, false, false, false, false, false, false, false, false, false, false, false, false, false, false, false, false, false, false, false, false] rfl rfl (by kernel_rfl) (fun _ _ _ h => h) (Or.inl ⟨by rfl, ?_⟩) ?_ ?_
              rotate_left
              · intro w'
                go_simp
                first | with_reducible rfl | (simp [Instr.field, go_sem]; rfl)
              rotate_left
              · simp only [Act.put, List.setIfInBounds_toArray, List.set_cons_zero, List.set_cons_succ]
                rfl
              refine pure_ (i := 9) (N := some 124) (v := ?_) (a' := ?_) #[true, true, true, true, true, true, true, true, true, true, false, false, false, false, false, false, false, false, false, false, false, false, false, false, false, false, false, false, false, false, false, false, false, false, false, false, false, false, false, false, false, false, false, false, false, false, false, false, false, false, false, false, false, false, false, false, false, false, false] rfl rfl (by kernel_rfl) (fun _ _ _ h => h) (Or.inl ⟨by rfl, ?_⟩) ?_ ?_
              rotate_left
              · intro w'
                go_simp
                first | with_reducible rfl | (simp [Instr.field, go_sem]; rfl)
              rotate_left
              · simp only [Act.put, List.setIfInBounds_toArray, List.set_cons_zero, List.set_cons_succ]
                rfl
              refine pure_ (i := 10) (N := some 125) (v := ?_) (a' := ?_) #[true, true, true, true, true, true, true, true, true, true, true, false, false, false, false, false, false, false, false, false, false, false, false, false, false, false, false, false, false, false, false, false, false, false, false, false, false, false, false, false, false, false, false, false, false, false, false, false, false, false, false, false, false, false, false, false, false, false, false] rfl rfl (by kernel_rfl) (fun _ _ _ h => h) (Or.inl ⟨by rfl, ?_⟩) ?_ ?_
              rotate_left
              · intro w'
                go_simp
                first | with_reducible rfl | (simp [Instr.field, go_sem]; rfl)
              rotate_left
              · simp only [Act.put, List.setIfInBounds_toArray, List.set_cons_zero, List.set_cons_succ]
                rfl
              refine pure_ (i := 11) (N := some 126) (v := ?_) (a' := ?_) #[true, true, true, true, true, true, true, true, true, true, true, true, false, false, false, false, false, false, false, false, false, false, false, false, false, false, false, false, false, false, false, false, false, false, false, false, false, false, false, false, false, false, false, false, false, false, false, false, false, false, false, false, false, false, false, false, false, false, false] rfl rfl (by kernel_rfl) (fun _ _ _ h => h) (Or.inl ⟨by rfl, ?_⟩) ?_ ?_
              rotate_left
              · intro w'
                go_simp
                first | with_reducible rfl | (simp [Instr.field, go_sem]; rfl)
              rotate_left
              · simp only [Act.put, List.setIfInBounds_toArray, List.set_cons_zero, List.set_cons_succ]
                rfl
              refine pure_ (i := 12) (N := some 127) (v := ?_) (a' := ?_) #[true, true, true, true, true, true, true, true, true, true, true, true, true, false, false, false, false, false, false, false, false, false, false, false, false, false, false, false, false, false, false, false, false, false, false, false, false, false, false, false, false, false, false, false, false, false, false, false, false, false, false, false, false, false, false, false, false, false, false] rfl rfl (by kernel_rfl) (fun _ _ _ h => h) (Or.inl ⟨by rfl, ?_⟩) ?_ ?_
              rotate_left
              · intro w'
                go_simp
                first | with_reducible rfl | (simp [Instr.field, go_sem]; rfl)
              rotate_left
              · simp only [Act.put, List.setIfInBounds_toArray, List.set_cons_zero, List.set_cons_succ]
                rfl
              refine pure_ (i := 13) (N := some 128) (v := ?_) (a' := ?_) #[true, true, true, true, true, true, true, true, true, true, true, true, true, true, false, false, false, false, false, false, false, false, false, false, false, false, false, false, false, false, false, false, false, false, false, false, false, false, false, false, false, false, false, false, false, false, false, false, false, false, false, false, false, false, false, false, false, false, false] rfl rfl (by kernel_rfl) (fun _ _ _ h => h) (Or.inl ⟨by rfl, ?_⟩) ?_ ?_
              rotate_left
              · intro w'
                go_simp
                first | with_reducible rfl | (simp [Instr.field, go_sem]; rfl)
              rotate_left
              · simp only [Act.put, List.setIfInBounds_toArray, List.set_cons_zero, List.set_cons_succ]
                rfl
              refine take_ (i := 14) (N := some 129) (v := ?_) (a' := ?_) #[true, true, true, true, true, true, true, true, true, true, true, true, true, true, true, false, false, false, false, false, false, false, false, false, false, false, false, false, false, false, false, false, false, false, false, false, false, false, false, false, false, false, false, false, false, false, false, false, false, false, false, false, false, false, false, false, false, false, false] rfl rfl (by kernel_rfl) (fun _ _ _ h => h) (Or.inl ⟨by rfl, ?_⟩) hHeld ?_ ?_
              rotate_left
              · rintro w' s0
                go_simp
                first | with_reducible rfl | (simp [Instr.field, go_sem]; rfl)
              rotate_left
              · simp only [Act.put, List.setIfInBounds_toArray, List.set_cons_zero, List.set_cons_succ]
                rfl
              refine pure_ (i := 15) (N := some 130) (v := ?_) (a' := ?_) #[true, true, true, true, true, true, true, true, true, true, true, true, true, true, true, true, false, false, false, false, false, false, false, false, false, false, false, false, false, false, false, false, false, false, false, false, false, false, false, false, false, false, false, false, false, false, false, false, false, false, false, false, false, false, false, false, false, false, false] rfl rfl (by kernel_rfl) (fun _ _ _ h => h) (Or.inl ⟨by rfl, ?_⟩) ?_ ?_
              rotate_left
              · intro w'
                go_simp
                first | with_reducible rfl | (simp [Instr.field, go_sem]; rfl)
              rotate_left
              · simp only [Act.put, List.setIfInBounds_toArray, List.set_cons_zero, List.set_cons_succ]
                rfl
              refine pure_ (i := 16) (N := some 131) (v := ?_) (a' := ?_) #[true, true, true, true, true, true, true, true, true, true, true, true, true, true, true, true, true, false, false, false, false, false, false, false, false, false, false, false, false, false, false, false, false, false, false, false, false, false, false, false, false, false, false, false, false, false, false, false, false, false, false, false, false, false, false, false, false, false, false] rfl rfl (by kernel_rfl) (fun _ _ _ h => h) (Or.inl ⟨by rfl, ?_⟩) ?_ ?_
              rotate_left
              · intro w'
                go_simp
                first | with_reducible rfl | (simp [Instr.field, go_sem]; rfl)
              rotate_left
              · simp only [Act.put, List.setIfInBounds_toArray, List.set_cons_zero, List.set_cons_succ]
                rfl
              refine pure_ (i := 17) (N := some 132) (v := ?_) (a' := ?_) #[true, true, true, true, true, true, true, true, true, true, true, true, true, true, true, true, true, true, false, false, false, false, false, false, false, false, false, false, false, false, false, false, false, false, false, false, false, false, false, false, false, false, false, false, false, false, false, false, false, false, false, false, false, false, false, false, false, false, false] rfl rfl (by kernel_rfl) (fun _ _ _ h => h) (Or.inl ⟨by rfl, ?_⟩) ?_ ?_
              rotate_left
              · intro w'
                go_simp
                first | with_reducible rfl | (simp [Instr.field, go_sem]; rfl)
              rotate_left
              · simp only [Act.put, List.setIfInBounds_toArray, List.set_cons_zero, List.set_cons_succ]
                rfl
              refine pure_ (i := 18) (N := some 133) (v := ?_) (a' := ?_) #[true, true, true, true, true, true, true, true, true, true, true, true, true, true, true, true, true, true, true, false, false, false, false, false, false, false, false, false, false, false, false, false, false, false, false, false, false, false, false, false, false, false, false, false, false, false, false, false, false, false, false, false, false, false, false, false, false, false, false] rfl rfl (by kernel_rfl) (fun _ _ _ h => h) (Or.inl ⟨by rfl, ?_⟩) ?_ ?_
              rotate_left
              · intro w'
                go_simp
                first | with_reducible rfl | (simp [Instr.field, go_sem]; rfl)
              rotate_left
              · simp only [Act.put, List.setIfInBounds_toArray, List.set_cons_zero, List.set_cons_succ]
                rfl
              refine pure_ (i := 19) (N := some 134) (v := ?_) (a' := ?_) #[true, true, true, true, true, true, true, true, true, true, true, true, true, true, true, true, true, true, true, true, false, false, false, false, false, false, false, false, false, false, false, false, false, false, false, false, false, false, false, false, false, false, false, false, false, false, false, false, false, false, false, false, false, false, false, false, false, false, false] rfl rfl (by kernel_rfl) (fun _ _ _ h => h) (Or.inl ⟨by rfl, ?_⟩) ?_ ?_
              rotate_left
              · intro w'
                go_simp
                first | with_reducible rfl | (simp [Instr.field, go_sem]; rfl)
              rotate_left
              · simp only [Act.put, List.setIfInBounds_toArray, List.set_cons_zero, List.set_cons_succ]
                rfl
              refine pure_ (i := 20) (N := some 135) (v := ?_) (a' := ?_) #[true, true, true, true, true, true, true, true, true, true, true, true, true, true, true, true, true, true, true, true, true, false, false, false, false, false, false, false, false, false, false, false, false, false, false, false, false, false, false, false, false, false, false, false, false, false, false, false, false, false, false, false, false, false, false, false, false, false, false] rfl rfl (by kernel_rfl) (fun _ _ _ h => h) (Or.inl ⟨by rfl, ?_⟩) ?_ ?_
              rotate_left
              · intro w'
                go_simp
                first | with_reducible rfl | (simp [Instr.field, go_sem]; rfl)
              rotate_left
              · simp only [Act.put, List.setIfInBounds_toArray, List.set_cons_zero, List.set_cons_succ]
                rfl
              refine pure_ (i := 21) (N := some 136) (v := ?_) (a' := ?_) #[true, true, true, true, true, true, true, true, true, true, true, true, true, true, true, true, true, true, true, true, true, true, false, false, false, false, false, false, false, false, false, false, false, false, false, false, false, false, false, false, false, false, false, false, false, false, false, false, false, false, false, false, false, false, false, false, false, false, false] rfl rfl (by kernel_rfl) (fun _ _ _ h => h) (Or.inl ⟨by rfl, ?_⟩) ?_ ?_
              rotate_left
              · intro w'
                go_simp
                first | with_reducible rfl | (simp [Instr.field, go_sem]; rfl)
              rotate_left
              · simp only [Act.put, List.setIfInBounds_toArray, List.set_cons_zero, List.set_cons_succ]
                rfl
              refine pure_ (i := 22) (N := some 137) (v := ?_) (a' := ?_) #[true, true, true, true, true, true, true, true, true, true, true, true, true, true, true, true, true, true, true, true, true, true, true, false, false, false, false, false, false, false, false, false, false, false, false, false, false, false, false, false, false, false, false, false, false, false, false, false, false, false, false, false, false, false, false, false, false, false, false] rfl rfl (by kernel_rfl) (fun _ _ _ h => h) (Or.inl ⟨by rfl, ?_⟩) ?_ ?_
              rotate_left
              · intro w'
                go_simp
                first | with_reducible rfl | (simp [Instr.field, go_sem]; rfl)
              rotate_left
              · simp only [Act.put, List.setIfInBounds_toArray, List.set_cons_zero, List.set_cons_succ]
                rfl
              refine pure_ (i := 23) (N := some 138) (v := ?_) (a' := ?_) #[true, true, true, true, true, true, true, true, true, true, true, true, true, true, true, true, true, true, true, true, true, true, true, true, false, false, false, false, false, false, false, false, false, false, false, false, false, false, false, false, false, false, false, false, false, false, false, false, false, false, false, false, false, false, false, false, false, false, false] rfl rfl (by kernel_rfl) (fun _ _ _ h => h) (Or.inl ⟨by rfl, ?_⟩) ?_ ?_
              rotate_left
              · intro w'
                go_simp
                first | with_reducible rfl | (simp [Instr.field, go_sem]; rfl)
              rotate_left
              · simp only [Act.put, List.setIfInBounds_toArray, List.set_cons_zero, List.set_cons_succ]
                rfl
              refine pure_ (i := 24) (N := some 139) (v := ?_) (a' := ?_) #[true, true, true, true, true, true, true, true, true, true, true, true, true, true, true, true, true, true, true, true, true, true, true, true, true, false, false, false, false, false, false, false, false, false, false, false, false, false, false, false, false, false, false, false, false, false, false, false, false, false, false, false, false, false, false, false, false, false, false] rfl rfl (by kernel_rfl) (fun _ _ _ h => h) (Or.inl ⟨by rfl, ?_⟩) ?_ ?_
              rotate_left
              · intro w'
                go_simp
                first | with_reducible rfl | (simp [Instr.field, go_sem]; rfl)
              rotate_left
              · simp only [Act.put, List.setIfInBounds_toArray, List.set_cons_zero, List.set_cons_succ]
                rfl
              refine pure_ (i := 25) (N := some 140) (v := ?_) (a' := ?_) #[true, true, true, true, true, true, true, true, true, true, true, true, true, true, true, true, true, true, true, true, true, true, true, true, true, true, false, false, false, false, false, false, false, false, false, false, false, false, false, false, false, false, false, false, false, false, false, false, false, false, false, false, false, false, false, false, false, false, false] rfl rfl (by kernel_rfl) (fun _ _ _ h => h) (Or.inl ⟨by rfl, ?_⟩) ?_ ?_
              rotate_left
              · intro w'
                go_simp
                first | with_reducible rfl | (simp [Instr.field, go_sem]; rfl)
              rotate_left
              · simp only [Act.put, List.setIfInBounds_toArray, List.set_cons_zero, List.set_cons_succ]
                rfl
              refine pure_ (i := 26) (N := some 141) (v := ?_) (a' := ?_) #[true, true, true, true, true, true, true, true, true, true, true, true, true, true, true, true, true, true, true, true, true, true, true, true, true, true, true, false, false, false, false, false, false, false, false, false, false, false, false, false, false, false, false, false, false, false, false, false, false, false, false, false, false, false, false, false, false, false, false] rfl rfl (by kernel_rfl) (fun _ _ _ h => h) (Or.inl ⟨by rfl, ?_⟩) ?_ ?_
              rotate_left
              · intro w'
                go_simp
                first | with_reducible rfl | (simp [Instr.field, go_sem]; rfl)
              rotate_left
              · simp only [Act.put, List.setIfInBounds_toArray, List.set_cons_zero, List.set_cons_succ]
                rfl
              refine pure_ (i := 27) (N := some 142) (v := ?_) (a' := ?_) #[true, true, true, true, true, true, true, true, true, true, true, true, true, true, true, true, true, true, true, true, true, true, true, true, true, true, true, true, false, false, false, false, false, false, false, false, false, false, false, false, false, false, false, false, false, false, false, false, false, false, false, false, false, false, false, false, false, false, false] rfl rfl (by kernel_rfl) (fun _ _ _ h => h) (Or.inl ⟨by rfl, ?_⟩) ?_ ?_
              rotate_left
              · intro w'
                go_simp
                first | with_reducible rfl | (simp [Instr.field, go_sem]; rfl)
              rotate_left
              · simp only [Act.put, List.setIfInBounds_toArray, List.set_cons_zero, List.set_cons_succ]
                rfl
              refine pure_ (i := 28) (N := some 143) (v := ?_) (a' := ?_) #[true, true, true, true, true, true, true, true, true, true, true, true, true, true, true, true, true, true, true, true, true, true, true, true, true, true, true, true, true, false, false, false, false, false, false, false, false, false, false, false, false, false, false, false, false, false, false, false, false, false, false, false, false, false, false, false, false, false, false] rfl rfl (by kernel_rfl) (fun _ _ _ h => h) (Or.inl ⟨by rfl, ?_⟩) ?_ ?_
              rotate_left
              · intro w'
                go_simp
                first | with_reducible rfl | (simp [Instr.field, go_sem]; rfl)
              rotate_left
              · simp only [Act.put, List.setIfInBounds_toArray, List.set_cons_zero, List.set_cons_succ]
                rfl
              refine pure_ (i := 29) (N := some 144) (v := ?_) (a' := ?_) #[true, true, true, true, true, true, true, true, true, true, true, true, true, true, true, true, true, true, true, true, true, true, true, true, true, true, true, true, true, true, false, false, false, false, false, false, false, false, false, false, false, false, false, false, false, false, false, false, false, false, false, false, false, false, false, false, false, false, false] rfl rfl (by kernel_rfl) (fun _ _ _ h => h) (Or.inl ⟨by rfl, ?_⟩) ?_ ?_
              rotate_left
              · intro w'
                go_simp
                first | with_reducible rfl | (simp [Instr.field, go_sem]; rfl)
              rotate_left
              · simp only [Act.put, List.setIfInBounds_toArray, List.set_cons_zero, List.set_cons_succ]
                rfl
              refine one_ (i := 30) (N := some 145) #[true, true, true, true, true, true, true, true, true, true, true, true, true, true, true, true, true, true, true, true, true, true, true, true, true, true, true, true, true, true, true, false, false, false, false, false, false, false, false, false, false, false, false, false, false, false, false, false, false, false, false, false, false, false, false, false, false, false, false] rfl rfl (by kernel_rfl) (by decide) (fun K hK => ?_)
              refine goes_ Try.func18 (by kernel_rfl) rfl #[.slice (some ⟨gb, 1, none⟩) 4 (capb - 1), .slice (some ⟨gs, 0, none⟩) 4 caps] (by rfl) rfl rfl (by (try simp only [List.map_toArray, List.map_cons, List.map_nil]); first | done | rfl) ?_
              refine (Ring.bytesC (n := 4) (Ev.cutB1 HX.out hcb.out) ((Kd.R_reads' HS.out).2.2) (Ev.short_len c) (by have := hcb.out; omega) ((Kd.R_reads' HS.out).2.1) (by omega)).mono ?_
              rintro r w6 ⟨rfl, hb⟩
              refine ⟨_, rfl, ?_⟩
              have HV2 := Aside0.mk (Ev.V_below HV.out hb)
              have HB2 := Aside0.mk (below_step HB.out hb)
              have HX2 := Aside0.mk (Kd.R_below HX.out hb)
              have HS2 := Aside0.mk (Kd.R_below HS.out hb)
              have HE2 := Aside0.mk (Kd.R_below HE.out hb)
              clear HV HB HX HS HE
              have HV := HV2
              have HB := HB2
              have HX := HX2
              have HS := HS2
              have HE := HE2
              clear HV2 HB2 HX2 HS2 HE2
              refine hK.out _ _ (Ev.first HX.out hX0.out) (fun hHeld => ?_)
              clear hK K hb
              refine norm_ (a' := ?_) ?_ ?_
              rotate_left
              · show Act.put _ (some 145) _ = _
                simp only [Act.put, List.setIfInBounds_toArray, List.set_cons_zero, List.set_cons_succ]
                rfl
              refine pure_ (i := 31) (N := some 146) (v := ?_) (a' := ?_) #[true, true, true, true, true, true, true, true, true, true, true, true, true, true, true, true, true, true, true, true, true, true, true, true, true, true, true, true, true, true, true, true, false, false, false, false, false, false, false, false, false, false, false, false, false, false, false, false, false, false, false, false, false, false, false, false, false, false, false] rfl rfl (by kernel_rfl) (fun _ _ _ h => h) (Or.inl ⟨by rfl, ?_⟩) ?_ ?_
              rotate_left
              · intro w'
                go_simp
                first | with_reducible rfl | (simp [Instr.field, go_sem]; rfl)
              rotate_left
              · simp only [Act.put, List.setIfInBounds_toArray, List.set_cons_zero, List.set_cons_succ]
                rfl
              refine pure_ (i := 32) (N := some 147) (v := ?_) (a' := ?_) #[true, true, true, true, true, true, true, true, true, true, true, true, true, true, true, true, true, true, true, true, true, true, true, true, true, true, true, true, true, true, true, true, true, false, false, false, false, false, false, false, false, false, false, false, false, false, false, false, false, false, false, false, false, false, false, false, false, false, false] rfl rfl (by kernel_rfl) (fun _ _ _ h => h) (Or.inl ⟨by rfl, ?_⟩) ?_ ?_
              rotate_left
              · intro w'
                go_simp
                first | with_reducible rfl | (simp [Instr.field, go_sem]; rfl)
              rotate_left
              · simp only [Act.put, List.setIfInBounds_toArray, List.set_cons_zero, List.set_cons_succ]
                rfl
              refine pure_ (i := 33) (N := some 148) (v := ?_) (a' := ?_) #[true, true, true, true, true, true, true, true, true, true, true, true, true, true, true, true, true, true, true, true, true, true, true, true, true, true, true, true, true, true, true, true, true, true, false, false, false, false, false, false, false, false, false, false, false, false, false, false, false, false, false, false, false, false, false, false, false, false, false] rfl rfl (by kernel_rfl) (fun _ _ _ h => h) (Or.inl ⟨by rfl, ?_⟩) ?_ ?_
              rotate_left
              · intro w'
                go_simp
                first | with_reducible rfl | (simp [Instr.field, go_sem]; rfl)
              rotate_left
              · simp only [Act.put, List.setIfInBounds_toArray, List.set_cons_zero, List.set_cons_succ]
                rfl
              refine pure_ (i := 34) (N := some 149) (v := ?_) (a' := ?_) #[true, true, true, true, true, true, true, true, true, true, true, true, true, true, true, true, true, true, true, true, true, true, true, true, true, true, true, true, true, true, true, true, true, true, true, false, false, false, false, false, false, false, false, false, false, false, false, false, false, false, false, false, false, false, false, false, false, false, false] rfl rfl (by kernel_rfl) (fun _ _ _ h => h) (Or.inl ⟨by rfl, ?_⟩) ?_ ?_
              rotate_left
              · intro w'
                go_simp
                first | with_reducible rfl | (simp [Instr.field, go_sem]; rfl)
              rotate_left
              · simp only [Act.put, List.setIfInBounds_toArray, List.set_cons_zero, List.set_cons_succ]
                rfl
              refine pure_ (i := 35) (N := some 150) (v := ?_) (a' := ?_) #[true, true, true, true, true, true, true, true, true, true, true, true, true, true, true, true, true, true, true, true, true, true, true, true, true, true, true, true, true, true, true, true, true, true, true, true, false, false, false, false, false, false, false, false, false, false, false, false, false, false, false, false, false, false, false, false, false, false, false] rfl rfl (by kernel_rfl) (fun _ _ _ h => h) (Or.inl ⟨by rfl, ?_⟩) ?_ ?_
              rotate_left
              · intro w'
                go_simp
                first | with_reducible rfl | (simp [Instr.field, go_sem]; rfl)
              rotate_left
              · simp only [Act.put, List.setIfInBounds_toArray, List.set_cons_zero, List.set_cons_succ]
                rfl
              refine one_ (i := 36) (N := some 151) #[true, true, true, true, true, true, true, true, true, true, true, true, true, true, true, true, true, true, true, true, true, true, true, true, true, true, true, true, true, true, true, true, true, true, true, true, true, false, false, false, false, false, false, false, false, false, false, false, false, false, false, false, false, false, false, false, false, false, false] rfl rfl (by kernel_rfl) (by decide) (fun K hK => ?_)
              refine Kd.R_lit_step (Kd.int .u16) _ 55 ?hg (N := 151) ?hd (xs := ([a1] : List Int)) (inner := [.int .u16 a1]) (ok := fun _ => True) (okp := fun _ => True) ?hr ?hp (fun _ hk => hk) trivial (Below.refl _ _) (Nat.le_refl _) (by simp) ?_
              (case hd => rfl)
              (case hg => rfl)
              (case hr => first | (go_simp; done) | (go_simp; rfl))
              (case hp => exact (Reps.one (show Kd.M (Kd.int .u16) _ _ _ a1 [.int .u16 a1] from rfl) (Reps.none _ _)))
              intro vq w6 ho hb hg_ hnew_
              obtain ⟨Aq, cq, eq⟩ := Kd.R_slice ho
              subst eq
              replace ho : Kd.R (Kd.int .u16) 55 _ _ _ (.slice Aq 1 cq) [a1] := ho
              have HQ := Aside0.mk ho
              clear ho hg_ hnew_
              have HV2 := Aside0.mk (Ev.V_below HV.out hb)
              have HB2 := Aside0.mk (below_step HB.out hb)
              have HX2 := Aside0.mk (Kd.R_below HX.out hb)
              have HS2 := Aside0.mk (Kd.R_below HS.out hb)
              have HE2 := Aside0.mk (Kd.R_below HE.out hb)
              clear HV HB HX HS HE
              have HV := HV2
              have HB := HB2
              have HX := HX2
              have HS := HS2
              have HE := HE2
              clear HV2 HB2 HX2 HS2 HE2
              refine hK.out _ _ (Ev.first HX.out hX0.out) (fun hHeld => ?_)
              clear hK K hb
              refine norm_ (a' := ?_) ?_ ?_
              rotate_left
              · show Act.put _ (some 151) _ = _
                simp only [Act.put, List.setIfInBounds_toArray, List.set_cons_zero, List.set_cons_succ]
                rfl
              refine one_ (i := 37) (N := some 152) #[true, true, true, true, true, true, true, true, true, true, true, true, true, true, true, true, true, true, true, true, true, true, true, true, true, true, true, true, true, true, true, true, true, true, true, true, true, true, false, false, false, false, false, false, false, false, false, false, false, false, false, false, false, false, false, false, false, false, false] rfl rfl (by kernel_rfl) (by decide) (fun K hK => ?_)
              refine goes_ Try.func54 (by kernel_rfl) rfl #[.slice Aq 1 cq] (by rfl) rfl rfl (by (try simp only [List.map_toArray, List.map_cons, List.map_nil]); first | done | rfl) ?_
              refine (bilgeref01_Put.calls 3 _ _ [a1] _ _ (Kd.R_reads' HQ.out).2.2 (Kd.R_reads' HQ.out).2.1 (Ev.rp1 ⟨k2, k3⟩)).mono ?_
              rintro r w6 ⟨v1, rfl, ho, hb⟩
              refine ⟨_, rfl, ?_⟩
              clear HQ
              obtain ⟨Ap, Apc, Ape⟩ := Kd.R_slice ho
              subst Ape
              replace ho : Kd.R (Kd.int .u8) 5 _ _ _ (.slice Ap 2 Apc) (word_Put.bs a1) := ho
              have HP := Aside0.mk (Kd.R_lower ho (below_size HB.out))
              clear ho
              have HV2 := Aside0.mk (Ev.V_below HV.out hb)
              have HB2 := Aside0.mk (below_step HB.out hb)
              have HX2 := Aside0.mk (Kd.R_below HX.out hb)
              have HS2 := Aside0.mk (Kd.R_below HS.out hb)
              have HE2 := Aside0.mk (Kd.R_below HE.out hb)
              clear HV HB HX HS HE
              have HV := HV2
              have HB := HB2
              have HX := HX2
              have HS := HS2
              have HE := HE2
              clear HV2 HB2 HX2 HS2 HE2
              refine hK.out _ _ (Ev.first HX.out hX0.out) (fun hHeld => ?_)
              clear hK K hb
              refine norm_ (a' := ?_) ?_ ?_
              rotate_left
              · show Act.put _ (some 152) _ = _
                simp only [Act.put, List.setIfInBounds_toArray, List.set_cons_zero, List.set_cons_succ]
                rfl
              refine one_ (i := 38) (N := some 153) #[true, true, true, true, true, true, true, true, true, true, true, true, true, true, true, true, true, true, true, true, true, true, true, true, true, true, true, true, true, true, true, true, true, true, true, true, true, true, true, false, false, false, false, false, false, false, false, false, false, false, false, false, false, false, false, false, false, false, false] rfl rfl (by kernel_rfl) (by decide) (fun K hK => ?_)
              refine goes_ Try.func18 (by kernel_rfl) rfl #[.slice (some ⟨gb, 5, none⟩) 2 (capb - 5), .slice Ap 2 Apc] (by rfl) rfl rfl (by (try simp only [List.map_toArray, List.map_cons, List.map_nil]); first | done | rfl) ?_
              refine (Ring.bytesC (n := 2) (Ev.cutB5 HX.out hcb.out) ((Kd.R_reads' HP.out).2.2) (rfl) (by have := hcb.out; omega) ((Kd.R_reads' HP.out).2.1) (by omega)).mono ?_
              rintro r w6 ⟨rfl, hb⟩
              refine ⟨_, rfl, ?_⟩
              have HV2 := Aside0.mk (Ev.V_below HV.out hb)
              have HB2 := Aside0.mk (below_step HB.out hb)
              have HX2 := Aside0.mk (Kd.R_below HX.out hb)
              have HS2 := Aside0.mk (Kd.R_below HS.out hb)
              have HE2 := Aside0.mk (Kd.R_below HE.out hb)
              clear HV HB HX HS HE
              have HV := HV2
              have HB := HB2
              have HX := HX2
              have HS := HS2
              have HE := HE2
              clear HV2 HB2 HX2 HS2 HE2
              refine hK.out _ _ (Ev.first HX.out hX0.out) (fun hHeld => ?_)
              clear hK K hb
              refine norm_ (a' := ?_) ?_ ?_
              rotate_left
              · show Act.put _ (some 153) _ = _
                simp only [Act.put, List.setIfInBounds_toArray, List.set_cons_zero, List.set_cons_succ]
                rfl
              refine pure_ (i := 39) (N := some 154) (v := ?_) (a' := ?_) #[true, true, true, true, true, true, true, true, true, true, true, true, true, true, true, true, true, true, true, true, true, true, true, true, true, true, true, true, true, true, true, true, true, true, true, true, true, true, true, true, false, false, false, false, false, false, false, false, false, false, false, false, false, false, false, false, false, false, false] rfl rfl (by kernel_rfl) (fun _ _ _ h => h) (Or.inl ⟨by rfl, ?_⟩) ?_ ?_
              rotate_left
              · intro w'
                go_simp
                first | with_reducible rfl | (simp [Instr.field, go_sem]; rfl)
              rotate_left
              · simp only [Act.put, List.setIfInBounds_toArray, List.set_cons_zero, List.set_cons_succ]
                rfl
              refine pure_ (i := 40) (N := some 155) (v := ?_) (a' := ?_) #[true, true, true, true, true, true, true, true, true, true, true, true, true, true, true, true, true, true, true, true, true, true, true, true, true, true, true, true, true, true, true, true, true, true, true, true, true, true, true, true, true, false, false, false, false, false, false, false, false, false, false, false, false, false, false, false, false, false, false] rfl rfl (by kernel_rfl) (fun _ _ _ h => h) (Or.inl ⟨by rfl, ?_⟩) ?_ ?_
              rotate_left
              · intro w'
                go_simp
                first | with_reducible rfl | (simp [Instr.field, go_sem]; rfl)
              rotate_left
              · simp only [Act.put, List.setIfInBounds_toArray, List.set_cons_zero, List.set_cons_succ]
                rfl
              refine pure_ (i := 41) (N := some 156) (v := ?_) (a' := ?_) #[true, true, true, true, true, true, true, true, true, true, true, true, true, true, true, true, true, true, true, true, true, true, true, true, true, true, true, true, true, true, true, true, true, true, true, true, true, true, true, true, true, true, false, false, false, false, false, false, false, false, false, false, false, false, false, false, false, false, false] rfl rfl (by kernel_rfl) (fun _ _ _ h => h) (Or.inl ⟨by rfl, ?_⟩) ?_ ?_
              rotate_left
              · intro w'
                go_simp
                first | with_reducible rfl | (simp [Instr.field, go_sem]; rfl)
              rotate_left
              · simp only [Act.put, List.setIfInBounds_toArray, List.set_cons_zero, List.set_cons_succ]
                rfl
              refine pure_ (i := 42) (N := some 157) (v := ?_) (a' := ?_) #[true, true, true, true, true, true, true, true, true, true, true, true, true, true, true, true, true, true, true, true, true, true, true, true, true, true, true, true, true, true, true, true, true, true, true, true, true, true, true, true, true, true, true, false, false, false, false, false, false, false, false, false, false, false, false, false, false, false, false] rfl rfl (by kernel_rfl) (fun _ _ _ h => h) (Or.inl ⟨by rfl, ?_⟩) ?_ ?_
              rotate_left
              · intro w'
                go_simp
                first | with_reducible rfl | (simp [Instr.field, go_sem]; rfl)
              rotate_left
              · simp only [Act.put, List.setIfInBounds_toArray, List.set_cons_zero, List.set_cons_succ]
                rfl
              refine pure_ (i := 43) (N := some 158) (v := ?_) (a' := ?_) #[true, true, true, true, true, true, true, true, true, true, true, true, true, true, true, true, true, true, true, true, true, true, true, true, true, true, true, true, true, true, true, true, true, true, true, true, true, true, true, true, true, true, true, true, false, false, false, false, false, false, false, false, false, false, false, false, false, false, false] rfl rfl (by kernel_rfl) (fun _ _ _ h => h) (Or.inl ⟨by rfl, ?_⟩) ?_ ?_
              rotate_left
              · intro w'
                go_simp
                first | with_reducible rfl | (simp [Instr.field, go_sem]; rfl)
              rotate_left
              · simp only [Act.put, List.setIfInBounds_toArray, List.set_cons_zero, List.set_cons_succ]
                rfl
              refine one_ (i := 44) (N := some 159) #[true, true, true, true, true, true, true, true, true, true, true, true, true, true, true, true, true, true, true, true, true, true, true, true, true, true, true, true, true, true, true, true, true, true, true, true, true, true, true, true, true, true, true, true, true, false, false, false, false, false, false, false, false, false, false, false, false, false, false] rfl rfl (by kernel_rfl) (by decide) (fun K hK => ?_)
              refine goes_ Try.func18 (by kernel_rfl) rfl #[.slice (some ⟨gb, 7, none⟩) L.length (capb - 7), .slice Ae L.length ce] (by rfl) rfl rfl (by (try simp only [List.map_toArray, List.map_cons, List.map_nil]); first | done | rfl) ?_
              refine (Ring.bytesC (n := L.length) (by have z := Ev.cutB7 HX.out hcb.out; rwa [if_neg hcap] at z) ((Kd.R_reads' HE.out).2.2) (rfl) (by have := hcb.out; omega) ((Kd.R_reads' HE.out).2.1) (by omega)).mono ?_
              rintro r w6 ⟨rfl, hb⟩
              refine ⟨_, rfl, ?_⟩
              have HV2 := Aside0.mk (Ev.V_below HV.out hb)
              have HB2 := Aside0.mk (below_step HB.out hb)
              have HX2 := Aside0.mk (Kd.R_below HX.out hb)
              have HS2 := Aside0.mk (Kd.R_below HS.out hb)
              have HE2 := Aside0.mk (Kd.R_below HE.out hb)
              clear HV HB HX HS HE
              have HV := HV2
              have HB := HB2
              have HX := HX2
              have HS := HS2
              have HE := HE2
              clear HV2 HB2 HX2 HS2 HE2
              refine hK.out _ _ (Ev.first HX.out hX0.out) (fun hHeld => ?_)
              clear hK K hb
              refine norm_ (a' := ?_) ?_ ?_
              rotate_left
              · show Act.put _ (some 159) _ = _
                simp only [Act.put, List.setIfInBounds_toArray, List.set_cons_zero, List.set_cons_succ]
                rfl
              refine pure_ (i := 45) (N := some 160) (v := ?_) (a' := ?_) #[true, true, true, true, true, true, true, true, true, true, true, true, true, true, true, true, true, true, true, true, true, true, true, true, true, true, true, true, true, true, true, true, true, true, true, true, true, true, true, true, true, true, true, true, true, true, false, false, false, false, false, false, false, false, false, false, false, false, false] rfl rfl (by kernel_rfl) (fun _ _ _ h => h) (Or.inl ⟨by rfl, ?_⟩) ?_ ?_
              rotate_left
              · intro w'
                go_simp
                first | with_reducible rfl | (simp [Instr.field, go_sem]; rfl)
              rotate_left
              · simp only [Act.put, List.setIfInBounds_toArray, List.set_cons_zero, List.set_cons_succ]
                rfl
              refine pure_ (i := 46) (N := some 161) (v := ?_) (a' := ?_) #[true, true, true, true, true, true, true, true, true, true, true, true, true, true, true, true, true, true, true, true, true, true, true, true, true, true, true, true, true, true, true, true, true, true, true, true, true, true, true, true, true, true, true, true, true, true, true, false, false, false, false, false, false, false, false, false, false, false, false] rfl rfl (by kernel_rfl) (fun _ _ _ h => h) (Or.inl ⟨by rfl, ?_⟩) ?_ ?_
              rotate_left
              · intro w'
                go_simp
                first | with_reducible rfl | (simp [Instr.field, go_sem]; rfl)
              rotate_left
              · simp only [Act.put, List.setIfInBounds_toArray, List.set_cons_zero, List.set_cons_succ]
                rfl
              refine pure_ (i := 47) (N := some 162) (v := ?_) (a' := ?_) #[true, true, true, true, true, true, true, true, true, true, true, true, true, true, true, true, true, true, true, true, true, true, true, true, true, true, true, true, true, true, true, true, true, true, true, true, true, true, true, true, true, true, true, true, true, true, true, true, false, false, false, false, false, false, false, false, false, false, false] rfl rfl (by kernel_rfl) (fun _ _ _ h => h) (Or.inl ⟨by rfl, ?_⟩) ?_ ?_
              rotate_left
              · intro w'
                go_simp
                first | with_reducible rfl | (simp [Instr.field, go_sem]; rfl)
              rotate_left
              · simp only [Act.put, List.setIfInBounds_toArray, List.set_cons_zero, List.set_cons_succ]
                rfl
              refine pure_ (i := 48) (N := some 163) (v := ?_) (a' := ?_) #[true, true, true, true, true, true, true, true, true, true, true, true, true, true, true, true, true, true, true, true, true, true, true, true, true, true, true, true, true, true, true, true, true, true, true, true, true, true, true, true, true, true, true, true, true, true, true, true, true, false, false, false, false, false, false, false, false, false, false] rfl rfl (by kernel_rfl) (fun _ _ _ h => h) (Or.inl ⟨by rfl, ?_⟩) ?_ ?_
              rotate_left
              · intro w'
                go_simp
                first | with_reducible rfl | (simp [Instr.field, go_sem]; rfl)
              rotate_left
              · simp only [Act.put, List.setIfInBounds_toArray, List.set_cons_zero, List.set_cons_succ]
                rfl
              refine pure_ (i := 49) (N := some 164) (v := ?_) (a' := ?_) #[true, true, true, true, true, true, true, true, true, true, true, true, true, true, true, true, true, true, true, true, true, true, true, true, true, true, true, true, true, true, true, true, true, true, true, true, true, true, true, true, true, true, true, true, true, true, true, true, true, true, false, false, false, false, false, false, false, false, false] rfl rfl (by kernel_rfl) (fun _ _ _ h => h) (Or.inl ⟨by rfl, ?_⟩) ?_ ?_
              rotate_left
              · intro w'
                go_simp
                first | with_reducible rfl | (simp [Instr.field, go_sem]; rfl)
              rotate_left
              · simp only [Act.put, List.setIfInBounds_toArray, List.set_cons_zero, List.set_cons_succ]
                rfl
              refine one_ (i := 50) (N := some 165) #[true, true, true, true, true, true, true, true, true, true, true, true, true, true, true, true, true, true, true, true, true, true, true, true, true, true, true, true, true, true, true, true, true, true, true, true, true, true, true, true, true, true, true, true, true, true, true, true, true, true, true, false, false, false, false, false, false, false, false] rfl rfl (by kernel_rfl) (by decide) (fun K hK => ?_)
              refine goes_ Try.func55 (by kernel_rfl) rfl #[.pointer (some ⟨e, 0, none⟩)] (by rfl) rfl rfl (by (try simp only [List.map_toArray, List.map_cons, List.map_nil]); first | done | rfl) ?_
              refine (Ev.count_ok HV.out).mono ?_
              rintro r w6 ⟨rfl, hb⟩
              refine ⟨_, rfl, ?_⟩
              have HV2 := Aside0.mk (Ev.V_below HV.out hb)
              have HB2 := Aside0.mk (below_step HB.out hb)
              have HX2 := Aside0.mk (Kd.R_below HX.out hb)
              have HS2 := Aside0.mk (Kd.R_below HS.out hb)
              have HE2 := Aside0.mk (Kd.R_below HE.out hb)
              clear HV HB HX HS HE
              have HV := HV2
              have HB := HB2
              have HX := HX2
              have HS := HS2
              have HE := HE2
              clear HV2 HB2 HX2 HS2 HE2
              refine hK.out _ _ (Ev.first HX.out hX0.out) (fun hHeld => ?_)
              clear hK K hb
              refine norm_ (a' := ?_) ?_ ?_
              rotate_left
              · show Act.put _ (some 165) _ = _
                simp only [Act.put, List.setIfInBounds_toArray, List.set_cons_zero, List.set_cons_succ]
                rfl
              refine one_ (i := 51) (N := some 166) #[true, true, true, true, true, true, true, true, true, true, true, true, true, true, true, true, true, true, true, true, true, true, true, true, true, true, true, true, true, true, true, true, true, true, true, true, true, true, true, true, true, true, true, true, true, true, true, true, true, true, true, true, false, false, false, false, false, false, false] rfl rfl (by kernel_rfl) (by decide) (fun K hK => ?_)
              refine Kd.R_lit_step (Kd.int .u16) _ 55 ?hg (N := 166) ?hd (xs := ([c] : List Int)) (inner := [.int .u16 c]) (ok := fun _ => True) (okp := fun _ => True) ?hr ?hp (fun _ hk => hk) trivial (Below.refl _ _) (Nat.le_refl _) (by simp) ?_
              (case hd => rfl)
              (case hg => rfl)
              (case hr => first | (go_simp; done) | (go_simp; rfl))
              (case hp => exact (Reps.one (show Kd.M (Kd.int .u16) _ _ _ c [.int .u16 c] from rfl) (Reps.none _ _)))
              intro vq w6 ho hb hg_ hnew_
              obtain ⟨Aq, cq, eq⟩ := Kd.R_slice ho
              subst eq
              replace ho : Kd.R (Kd.int .u16) 55 _ _ _ (.slice Aq 1 cq) [c] := ho
              have HQ := Aside0.mk ho
              clear ho hg_ hnew_
              have HV2 := Aside0.mk (Ev.V_below HV.out hb)
              have HB2 := Aside0.mk (below_step HB.out hb)
              have HX2 := Aside0.mk (Kd.R_below HX.out hb)
              have HS2 := Aside0.mk (Kd.R_below HS.out hb)
              have HE2 := Aside0.mk (Kd.R_below HE.out hb)
              clear HV HB HX HS HE
              have HV := HV2
              have HB := HB2
              have HX := HX2
              have HS := HS2
              have HE := HE2
              clear HV2 HB2 HX2 HS2 HE2
              refine hK.out _ _ (Ev.first HX.out hX0.out) (fun hHeld => ?_)
              clear hK K hb
              refine norm_ (a' := ?_) ?_ ?_
              rotate_left
              · show Act.put _ (some 166) _ = _
                simp only [Act.put, List.setIfInBounds_toArray, List.set_cons_zero, List.set_cons_succ]
                rfl
              refine one_ (i := 52) (N := some 167) #[true, true, true, true, true, true, true, true, true, true, true, true, true, true, true, true, true, true, true, true, true, true, true, true, true, true, true, true, true, true, true, true, true, true, true, true, true, true, true, true, true, true, true, true, true, true, true, true, true, true, true, true, true, false, false, false, false, false, false] rfl rfl (by kernel_rfl) (by decide) (fun K hK => ?_)
              refine goes_ Try.func54 (by kernel_rfl) rfl #[.slice Aq 1 cq] (by rfl) rfl rfl (by (try simp only [List.map_toArray, List.map_cons, List.map_nil]); first | done | rfl) ?_
              refine (bilgeref01_Put.calls 3 _ _ [c] _ _ (Kd.R_reads' HQ.out).2.2 (Kd.R_reads' HQ.out).2.1 (Ev.rp1 HC.out)).mono ?_
              rintro r w6 ⟨v1, rfl, ho, hb⟩
              refine ⟨_, rfl, ?_⟩
              clear HQ
              obtain ⟨Ap, Apc, Ape⟩ := Kd.R_slice ho
              subst Ape
              replace ho : Kd.R (Kd.int .u8) 5 _ _ _ (.slice Ap 2 Apc) (word_Put.bs c) := ho
              have HP := Aside0.mk (Kd.R_lower ho (below_size HB.out))
              clear ho
              have HV2 := Aside0.mk (Ev.V_below HV.out hb)
              have HB2 := Aside0.mk (below_step HB.out hb)
              have HX2 := Aside0.mk (Kd.R_below HX.out hb)
              have HS2 := Aside0.mk (Kd.R_below HS.out hb)
              have HE2 := Aside0.mk (Kd.R_below HE.out hb)
              clear HV HB HX HS HE
              have HV := HV2
              have HB := HB2
              have HX := HX2
              have HS := HS2
              have HE := HE2
              clear HV2 HB2 HX2 HS2 HE2
              refine hK.out _ _ (Ev.first HX.out hX0.out) (fun hHeld => ?_)
              clear hK K hb
              refine norm_ (a' := ?_) ?_ ?_
              rotate_left
              · show Act.put _ (some 167) _ = _
                simp only [Act.put, List.setIfInBounds_toArray, List.set_cons_zero, List.set_cons_succ]
                rfl
              refine one_ (i := 53) (N := some 168) #[true, true, true, true, true, true, true, true, true, true, true, true, true, true, true, true, true, true, true, true, true, true, true, true, true, true, true, true, true, true, true, true, true, true, true, true, true, true, true, true, true, true, true, true, true, true, true, true, true, true, true, true, true, true, false, false, false, false, false] rfl rfl (by kernel_rfl) (by decide) (fun K hK => ?_)
              refine goes_ Try.func18 (by kernel_rfl) rfl #[.slice (some ⟨gs, 2, none⟩) 2 (caps - 2), .slice Ap 2 Apc] (by rfl) rfl rfl (by (try simp only [List.map_toArray, List.map_cons, List.map_nil]); first | done | rfl) ?_
              refine (Ring.bytesC (n := 2) (Ev.cutS2 HS.out) ((Kd.R_reads' HP.out).2.2) (rfl) (by have := (Kd.R_reads' HS.out).2.1; omega) ((Kd.R_reads' HP.out).2.1) (by omega)).mono ?_
              rintro r w6 ⟨rfl, hb⟩
              refine ⟨_, rfl, ?_⟩
              have HV2 := Aside0.mk (Ev.V_below HV.out hb)
              have HB2 := Aside0.mk (below_step HB.out hb)
              have HX2 := Aside0.mk (Kd.R_below HX.out hb)
              have HS2 := Aside0.mk (Kd.R_below HS.out hb)
              have HE2 := Aside0.mk (Kd.R_below HE.out hb)
              clear HV HB HX HS HE
              have HV := HV2
              have HB := HB2
              have HX := HX2
              have HS := HS2
              have HE := HE2
              clear HV2 HB2 HX2 HS2 HE2
              refine hK.out _ _ (Ev.first HX.out hX0.out) (fun hHeld => ?_)
              clear hK K hb
              refine norm_ (a' := ?_) ?_ ?_
              rotate_left
              · show Act.put _ (some 168) _ = _
                simp only [Act.put, List.setIfInBounds_toArray, List.set_cons_zero, List.set_cons_succ]
                rfl
              refine pure_ (i := 54) (N := some 169) (v := ?_) (a' := ?_) #[true, true, true, true, true, true, true, true, true, true, true, true, true, true, true, true, true, true, true, true, true, true, true, true, true, true, true, true, true, true, true, true, true, true, true, true, true, true, true, true, true, true, true, true, true, true, true, true, true, true, true, true, true, true, true, false, false, false, false] rfl rfl (by kernel_rfl) (fun _ _ _ h => h) (Or.inl ⟨by rfl, ?_⟩) ?_ ?_
              rotate_left
              · intro w'
                go_simp
                first | with_reducible rfl | (simp [Instr.field, go_sem]; rfl)
              rotate_left
              · simp only [Act.put, List.setIfInBounds_toArray, List.set_cons_zero, List.set_cons_succ]
                rfl
              refine pure_ (i := 55) (N := some 170) (v := ?_) (a' := ?_) #[true, true, true, true, true, true, true, true, true, true, true, true, true, true, true, true, true, true, true, true, true, true, true, true, true, true, true, true, true, true, true, true, true, true, true, true, true, true, true, true, true, true, true, true, true, true, true, true, true, true, true, true, true, true, true, true, false, false, false] rfl rfl (by kernel_rfl) (fun _ _ _ h => h) (Or.inl ⟨by rfl, ?_⟩) ?_ ?_
              rotate_left
              · intro w'
                go_simp
                first | with_reducible rfl | (simp [Instr.field, go_sem]; rfl)
              rotate_left
              · simp only [Act.put, List.setIfInBounds_toArray, List.set_cons_zero, List.set_cons_succ]
                rfl
              refine one_ (i := 56) (N := some 171) #[true, true, true, true, true, true, true, true, true, true, true, true, true, true, true, true, true, true, true, true, true, true, true, true, true, true, true, true, true, true, true, true, true, true, true, true, true, true, true, true, true, true, true, true, true, true, true, true, true, true, true, true, true, true, true, true, true, false, false] rfl rfl (by kernel_rfl) (by decide) (fun K hK => ?_)
              refine goes_ Try.func45 (by kernel_rfl) rfl #[] (by rfl) rfl rfl (by (try simp only [List.map_toArray, List.map_cons, List.map_nil]); first | done | rfl) ?_
              refine Ev.sure.mono ?_
              rintro r w6 ⟨rfl, hb⟩
              refine ⟨_, rfl, ?_⟩
              have HV2 := Aside0.mk (Ev.V_below HV.out hb)
              have HB2 := Aside0.mk (below_step HB.out hb)
              have HX2 := Aside0.mk (Kd.R_below HX.out hb)
              have HS2 := Aside0.mk (Kd.R_below HS.out hb)
              have HE2 := Aside0.mk (Kd.R_below HE.out hb)
              clear HV HB HX HS HE
              have HV := HV2
              have HB := HB2
              have HX := HX2
              have HS := HS2
              have HE := HE2
              clear HV2 HB2 HX2 HS2 HE2
              refine hK.out _ _ (Ev.first HX.out hX0.out) (fun hHeld => ?_)
              clear hK K hb
              refine norm_ (a' := ?_) ?_ ?_
              rotate_left
              · show Act.put _ (some 171) _ = _
                simp only [Act.put, List.setIfInBounds_toArray, List.set_cons_zero, List.set_cons_succ]
                rfl
              refine pure_ (i := 57) (N := some 172) (v := ?_) (a' := ?_) #[true, true, true, true, true, true, true, true, true, true, true, true, true, true, true, true, true, true, true, true, true, true, true, true, true, true, true, true, true, true, true, true, true, true, true, true, true, true, true, true, true, true, true, true, true, true, true, true, true, true, true, true, true, true, true, true, true, true, false] rfl rfl (by kernel_rfl) (fun _ _ _ h => h) (Or.inl ⟨by rfl, ?_⟩) ?_ ?_
              rotate_left
              · intro w'
                go_simp
                first | with_reducible rfl | (simp [Instr.field, go_sem]; rfl)
              rotate_left
              · simp only [Act.put, List.setIfInBounds_toArray, List.set_cons_zero, List.set_cons_succ]
                rfl
              refine pure_ (i := 58) (N := some 4) (v := ?_) (a' := ?_) #[true, true, true, true, true, true, true, true, true, true, true, true, true, true, true, true, true, true, true, true, true, true, true, true, true, true, true, true, true, true, true, true, true, true, true, true, true, true, true, true, true, true, true, true, true, true, true, true, true, true, true, true, true, true, true, true, true, true, true] rfl rfl (by kernel_rfl) (fun _ _ _ h => h) (Or.inl ⟨by rfl, ?_⟩) ?_ ?_
              rotate_left
              · intro w'
                go_simp
                first | with_reducible rfl | (simp [Instr.field, go_sem]; rfl)
              rotate_left
              · simp only [Act.put, List.setIfInBounds_toArray, List.set_cons_zero, List.set_cons_succ]
                rfl
              refine done_ (by kernel_rfl) ?_
              go_wp2
              go_ret
              exact ⟨rfl, HB.out⟩
  · rw [if_neg hc] at h
    cases h

/-- THE ONE PURE STATEMENT of bilgelaw19_EventLong: yours. -/
def bilgelaw19_EventLong.Pure : Prop := ∀ (x0 : List (S81)) (x1 : Int), (x0.length ≤ maxLen ∧ x0.length * 24 ≤ 140737488351232 ∧ ∀ y0 ∈ x0, ((Lit.int .i64 y0.f0).wf = true ∧ (Lit.int .i64 y0.f1).wf = true ∧ (True ∧ True ∧ True ∧ True))) → (Lit.int .u16 x1).wf = true → bilgelaw19_EventLong.f x0 x1 = some true

end Go.Proofs.Ytnaedmakkefdfaa.P
