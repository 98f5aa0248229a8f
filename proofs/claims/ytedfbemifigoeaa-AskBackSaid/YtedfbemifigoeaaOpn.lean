/- How a type's values open as a kind's of the printed words: for the rows of laws whose parameters are structs, arrays, slices of whatever. By the session's agent. -/
import Derived.Test.YtedfbemifigoeaaWWords
import Derived.ChangeArms
import Derived.ChangeSlices
import Derived.SizedLaws
import Derived.OpenShut
import Derived.WideShapes
import Derived.Deep.Slices
namespace Go.Proofs.YtedfbemifigoeaaW.Opener
open Go.Proofs.YtedfbemifigoeaaW.PrintWords Go.ChangeShapes Go.WideShapes
set_option linter.unusedVariables false

def Opn {α : Type} (P : Program) (T : TypeId) (d : Kd α) (Q : α → Prop) : Prop :=
  P.cellsOf T = d.sz ∧ ∀ (H : Type) (enc : TypeId × Value → H) (w : World) (base : Nat) (spare : Nat → Bool) (held : Bool) (fuel : Nat) (cs : List Value) (x : DataW H × List MemPlace),
    DataW.trod enc P w base spare held fuel T cs = some x → (∀ n ∈ x.1.weights P T, n ≤ reachBytes) → ∃ a, d.K w a cs ∧ Q a

theorem opn_int {P : Program} {T : TypeId} {k : IntKind} (hu : P.underlying T = some (.int k)) (hc : P.cellsOf T = 1) : Opn P T (Kd.int k) (fun n => (Lit.int k n).wf = true) := by
  refine ⟨hc, fun H enc w base spare held fuel cs x h _ => ?_⟩
  obtain ⟨m, rfl, _, hw⟩ := DataW.trod_int hu h
  exact ⟨m, rfl, hw⟩

theorem opn_bool {P : Program} {T : TypeId} (hu : P.underlying T = some .bool) (hc : P.cellsOf T = 1) : Opn P T Kd.bool (fun _ => True) := by
  refine ⟨hc, fun H enc w base spare held fuel cs x h _ => ?_⟩
  obtain ⟨b, hb⟩ : ∃ b, cs = [.bool b] := by
    cases fuel with
    | zero => simp [DataW.trod] at h
    | succ n =>
      unfold DataW.trod at h
      rw [hu] at h
      split at h <;> simp_all
  exact ⟨b, hb, trivial⟩

theorem opn_string {P : Program} {T : TypeId} (hu : P.underlying T = some .string) (hc : P.cellsOf T = 1) : Opn P T Kd.string (fun s => s.size ≤ 140737488351232) := by
  refine ⟨hc, fun H enc w base spare held fuel cs x h hw => ?_⟩
  cases fuel with
  | zero => simp [DataW.trod] at h
  | succ n =>
    unfold DataW.trod at h
    rw [hu] at h
    split at h <;> simp_all
    rename_i s
    obtain ⟨_, rfl⟩ := h
    exact ⟨s, rfl, by simpa [DataW.weights, reachBytes] using hw⟩

theorem choose_list {α : Type} {n : Nat} {R : Nat → α → Prop} (h : ∀ i, i < n → ∃ a, R i a) : ∃ l : List α, l.length = n ∧ ∀ i a, l[i]? = some a → R i a := by
  induction n with
  | zero => exact ⟨[], rfl, fun i a hi => by simp at hi⟩
  | succ n ih =>
    obtain ⟨l, hl, hr⟩ := ih (fun i hi => h i (by omega))
    obtain ⟨a, ha⟩ := h n (by omega)
    refine ⟨l ++ [a], by simp [hl], fun i b hi => ?_⟩
    by_cases hin : i < n
    · rw [List.getElem?_append_left (by omega)] at hi
      exact hr i b hi
    · rw [List.getElem?_append_right (by omega)] at hi
      have : i = n := by
        rcases Nat.lt_or_ge (i - l.length) 1 with h1 | h1
        · omega
        · rw [List.getElem?_eq_none (by simpa using h1)] at hi; cases hi
      subst this
      rw [hl, Nat.sub_self] at hi
      obtain rfl : a = b := by simpa using hi
      exact ha

theorem weightsAll_mem {H : Type} {P : Program} {e : TypeId} : ∀ {l : List (DataW H)} {d : DataW H}, d ∈ l → ∀ n ∈ d.weights P e, n ∈ DataW.weightsAll P e l
  | [], d, h, _, _ => by simp at h
  | a :: l, d, h, n, hn => by
    simp only [DataW.weightsAll, List.mem_append]
    rcases List.mem_cons.1 h with rfl | h
    · exact .inl hn
    · exact .inr (weightsAll_mem h n hn)

theorem opn_slice {P : Program} {T e : TypeId} {α : Type} {d : Kd α} {Q : α → Prop} {B : Nat} (hu : P.underlying T = some (.slice e)) (hc : P.cellsOf T = 1) (hB : P.bytesOf e = B) (he : Opn P e d Q) :
    Opn P T (Kd.slice e d) (fun l => l.length ≤ maxLen ∧ l.length * B ≤ 140737488351232 ∧ ∀ x ∈ l, Q x) := by
  refine ⟨hc, fun H enc w base spare held fuel cs x h hw => ?_⟩
  rcases DataW.trod_slice hu h with ⟨rfl, rfl⟩ | ⟨a, len, cap, elems, rest, n, _, rfl, rfl, hb, hl, hm, hlen, hel, _, _⟩
  · refine ⟨[], ⟨none, 0, rfl, Nat.le_refl _, rfl, by simp, fun h => absurd h (by simp)⟩, by simp [maxLen], by simp, by simp⟩
  · have hone : ∀ i, i < len → ∃ p : α, (∃ c, c.length = d.sz ∧ d.K w p c ∧ ∀ j u, c[j]? = some u → w.cell? (a.add (i * d.sz + j)) = some u) ∧ Q p := by
      intro i hi
      have hb' := hel i hi
      rw [List.getElem?_eq_getElem (by omega)] at hb'
      obtain ⟨c, hcs, hy⟩ := Option.bind_eq_some_iff.1 hb'
      rw [he.1] at hcs
      obtain ⟨p, hp, hq⟩ := he.2 H enc w base spare held n c _ hy (fun m hm => hw m (by
        have : elems[i].1 ∈ elems.map (·.1) := List.mem_map_of_mem (List.getElem_mem _)
        simp only [DataW.weights, hu, List.mem_cons, List.mem_append]
        exact .inr (.inl (weightsAll_mem this m hm))))
      obtain ⟨_, hcl, hcell⟩ := World.cells?_some hcs
      refine ⟨p, ⟨c, hcl, hp, fun j u hj => ?_⟩, hq⟩
      have hjl : j < d.sz := by
        have := (List.getElem?_eq_some_iff.1 hj).1
        omega
      have h1 := hcell j hjl
      rw [Go.Deep.add_add, hj] at h1
      exact h1
    obtain ⟨l, hll, hr⟩ := choose_list hone
    refine ⟨l, ⟨some a, cap, by rw [hll], by omega, rfl, ?_, fun h0 => ⟨a, rfl, fun j p hj => (hr j p hj).1⟩⟩, by omega, ?_, fun p hp => ?_⟩
    · have : maxLen ≤ 9223372036854775807 := by decide
      omega
    · have h1 := hw ((elems.length + rest.length) * P.bytesOf e) (by simp [DataW.weights, hu])
      rw [hB] at h1
      have h2 : l.length * B ≤ (elems.length + rest.length) * B := Nat.mul_le_mul_right _ (by omega)
      have h3 : reachBytes = 140737488351232 := by decide
      omega
    · obtain ⟨i, hi⟩ := List.getElem?_of_mem hp
      exact (hr i p hi).2

/-- Fields in line, from an offset on. -/
def OpnFs {α : Type} (P : Program) (fs : List (TypeId × Nat)) (off : Nat) (d : Kd α) (Q : α → Prop) : Prop :=
  ∀ (H : Type) (enc : TypeId × Value → H) (w : World) (base : Nat) (spare : Nat → Bool) (held : Bool) (fuel : Nat) (cs : List Value) (xs : List (DataW H × List MemPlace)),
    cs.length = d.sz → xs.length = fs.length → (∀ (i : Nat) (f : TypeId × Nat), fs[i]? = some f → DataW.trod enc P w base spare held fuel f.1 ((cs.drop (f.2 - off)).take (P.cellsOf f.1)) = xs[i]?) →
    (∀ n ∈ DataW.weightsEach P (fs.map (·.1)) (xs.map (·.1)), n ≤ reachBytes) → ∃ a, d.K w a cs ∧ Q a

theorem opnFs_one {P : Program} {T off : Nat} {α : Type} {d : Kd α} {Q : α → Prop} (h : Opn P T d Q) : OpnFs P [(T, off)] off d Q := by
  intro H enc w base spare held fuel cs xs hcl hxl hx hw
  obtain ⟨x, rfl⟩ : ∃ x, xs = [x] := by
    match xs, hxl with
    | [x], _ => exact ⟨x, rfl⟩
  have h0 := hx 0 (T, off) rfl
  rw [Nat.sub_self, List.drop_zero, h.1, List.take_of_length_le (by omega)] at h0
  exact h.2 H enc w base spare held fuel cs x h0 (fun n hn => hw n (by simpa [DataW.weightsEach] using hn))

theorem opnFs_cons {P : Program} {T off : Nat} {α β : Type} {d : Kd α} {Q : α → Prop} {fs : List (TypeId × Nat)} {d2 : Kd β} {Q2 : β → Prop} (h : Opn P T d Q) (h2 : OpnFs P fs (off + d.sz) d2 Q2)
    (hoff : ∀ f ∈ fs, off + d.sz ≤ f.2) : OpnFs P ((T, off) :: fs) off (Kd.pair d d2) (fun p => Q p.1 ∧ Q2 p.2) := by
  intro H enc w base spare held fuel cs xs hcl hxl hx hw
  obtain ⟨x, xs, rfl⟩ : ∃ x ys, xs = x :: ys := by
    match xs, hxl with
    | x :: ys, _ => exact ⟨x, ys, rfl⟩
  have hcl2 : cs.length = d.sz + d2.sz := hcl
  have h0 := hx 0 (T, off) rfl
  rw [Nat.sub_self, List.drop_zero, h.1] at h0
  obtain ⟨a, ha, hqa⟩ := h.2 H enc w base spare held fuel _ x h0 (fun n hn => hw n (by
    simp only [List.map_cons, DataW.weightsEach, List.mem_append]; exact .inl hn))
  obtain ⟨b, hb, hqb⟩ := h2 H enc w base spare held fuel (cs.drop d.sz) xs (by rw [List.length_drop]; omega) (by simpa using hxl) (fun i f hf => by
    have h1 := hx (i + 1) f (by simpa using hf)
    have h3 := hoff f (List.mem_of_getElem? hf)
    rw [List.drop_drop, show d.sz + (f.2 - (off + d.sz)) = f.2 - off by omega]
    simpa using h1) (fun n hn => hw n (by
    simp only [List.map_cons, DataW.weightsEach, List.mem_append]; exact .inr hn))
  exact ⟨(a, b), ⟨cs.take d.sz, cs.drop d.sz, (List.take_append_drop _ _).symm, ha, hb⟩, hqa, hqb⟩

theorem opn_struct {P : Program} {T : TypeId} {fs : Array Field} {gs : List (TypeId × Nat)} {α β : Type} {d : Kd α} {Q : α → Prop} {proj : β → α} (hu : P.underlying T = some (.struct fs)) (hc : P.cellsOf T = d.sz)
    (hg : fs.toList.map (fun f => (f.type, f.offset)) = gs) (h : OpnFs P gs 0 d Q) (hp : ∀ a, ∃ x, proj x = a) : Opn P T (Kd.iso d proj) (fun x => Q (proj x)) := by
  refine ⟨hc, fun H enc w base spare held fuel cs x hx hw => ?_⟩
  obtain ⟨xs, n, _, rfl, hcl, hxl, hel⟩ := DataW.trod_struct hu hx
  obtain ⟨a, ha, hq⟩ := h H enc w base spare held n cs xs (hcl.trans hc) (by rw [hxl, ← hg]; simp) (fun i f hf => by
    rw [← hg, List.getElem?_map] at hf
    obtain ⟨f0, hf0, rfl⟩ := Option.map_eq_some_iff.1 hf
    have := hel i f0 (by simpa using hf0)
    simpa using this) (fun m hm => hw m (by
    simp only [DataW.weights, hu]
    rw [← hg] at hm
    simpa [List.map_map, Function.comp_def] using hm))
  obtain ⟨y, rfl⟩ := hp a
  exact ⟨y, ha, hq⟩

theorem weightsAll_each {H : Type} {P : Program} {e : TypeId} : ∀ (gs : List (TypeId × Nat)) (l : List (DataW H)), (∀ g ∈ gs, g.1 = e) → ∀ n ∈ DataW.weightsEach P (gs.map (·.1)) l, n ∈ DataW.weightsAll P e l
  | [], l, _, n, hn => by simp [DataW.weightsEach] at hn
  | _ :: _, [], _, n, hn => by simp [DataW.weightsEach] at hn
  | g :: gs, d :: l, h, n, hn => by
    simp only [List.map_cons, DataW.weightsEach, List.mem_append] at hn
    simp only [DataW.weightsAll, List.mem_append]
    rcases hn with hn | hn
    · rw [h g List.mem_cons_self] at hn; exact .inl hn
    · exact .inr (weightsAll_each gs l (fun g hg => h g (List.mem_cons_of_mem _ hg)) n hn)

theorem opn_array {P : Program} {T e : TypeId} {m : Nat} {gs : List (TypeId × Nat)} {α β : Type} {d : Kd α} {Q : α → Prop} {proj : β → α} (hu : P.underlying T = some (.array m e)) (hc : P.cellsOf T = d.sz)
    (hg : gs = (List.range m).map (fun i => (e, i * P.cellsOf e))) (h : OpnFs P gs 0 d Q) (hp : ∀ a, ∃ x, proj x = a) : Opn P T (Kd.iso d proj) (fun x => Q (proj x)) := by
  refine ⟨hc, fun H enc w base spare held fuel cs x hx hw => ?_⟩
  obtain ⟨xs, n, _, rfl, hcl, hxl, hel⟩ := DataW.trod_array hu hx
  obtain ⟨a, ha, hq⟩ := h H enc w base spare held n cs xs (hcl.trans hc) (by rw [hxl, hg]; simp) (fun i f hf => by
    rw [hg, List.getElem?_map] at hf
    obtain ⟨j, hj, rfl⟩ := Option.map_eq_some_iff.1 hf
    obtain ⟨hjm, rfl⟩ : i < m ∧ i = j := by
      rcases Nat.lt_or_ge i m with hi | hi
      · rw [List.getElem?_eq_getElem (by simpa using hi)] at hj
        simp at hj
        exact ⟨hi, hj⟩
      · rw [List.getElem?_eq_none (by simpa using hi)] at hj; cases hj
    have := hel i hjm
    simpa using this) (fun q hq => hw q (by
    simp only [DataW.weights, hu]
    exact weightsAll_each gs _ (fun g hg' => by rw [hg] at hg'; obtain ⟨i, _, rfl⟩ := List.mem_map.1 hg'; rfl) q hq))
  obtain ⟨y, rfl⟩ := hp a
  exact ⟨y, ha, hq⟩

/-- An argument's weights are among all arguments'. -/
theorem weights_arg {H : Type} {P : Program} {ts : List TypeId} {ds : List (DataW H)} {j : Nat} {t : TypeId} {d : DataW H} (h : (DataW.weightsEach P ts ds).all (· ≤ reachBytes) = true) (ht : ts[j]? = some t) (hd : ds[j]? = some d) :
    ∀ n ∈ d.weights P t, n ≤ reachBytes := fun n hn => by
  have := List.all_eq_true.1 h _ (DataW.weights_mem_each ht hd n hn)
  simpa using this
theorem agg_of {cs : Array Value} {l : List Value} (h : cs.toList = l) : cs = l.toArray := by rw [← h]
theorem array_okWide {P : Program} {w : World} {r : Reach} {b : Nat} {t n e : Nat} {v : Value} (hu : P.underlying t = some (.array n e)) (hv : Value.okWide P w r b t v) : ∃ cs, v = .agg cs := by
  unfold Value.okWide at hv
  rw [hu] at hv
  exact ⟨hv.choose, hv.choose_spec.1⟩
end Go.Proofs.YtedfbemifigoeaaW.Opener
