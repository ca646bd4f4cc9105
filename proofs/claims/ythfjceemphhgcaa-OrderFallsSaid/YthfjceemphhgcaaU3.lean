/- What the two laws ask of a row of deeds, of a new O, of how many wait. -/
import Derived.Test.YthfjceemphhgcaaD1
set_option linter.unusedVariables false
set_option linter.unusedSimpArgs false
namespace Go.Proofs.YthfjceemphhgcaaV
open Go Go.RowKit Go.Proofs

/-- A row of deeds: three whole numbers each. -/
def Deeds (m : Nat) (cells : List Value) (ds : Nat → Int × Int × Int) : Prop := ∀ i, i < m → cells[i * 3]? = some (.int .i64 (ds i).1) ∧ cells[i * 3 + 1]? = some (.int .i64 (ds i).2.1) ∧ cells[i * 3 + 2]? = some (.int .i64 (ds i).2.2)
theorem Deeds.part {m : Nat} {cells : List Value} {ds : Nat → Int × Int × Int} (h : Deeds m cells ds) {i : Nat} (hi : i < m) : ∀ k u, [Value.int .i64 (ds i).1, .int .i64 (ds i).2.1, .int .i64 (ds i).2.2][k]? = some u → cells[i * 3 + k]? = some u := by
  obtain ⟨h0, h1, h2⟩ := h i hi
  intro k u hk
  match k with
  | 0 => simp at hk; subst hk; exact h0
  | 1 => simp at hk; subst hk; exact h1
  | 2 => simp at hk; subst hk; exact h2
  | k + 3 => simp at hk
theorem rnew_ok (F : Nat → Prop) (n : Int) (w : World) (hFl : ∀ b, F b → b < w.heap.size) : Ret Try.prog 17 [.int .i64 n] w fun v w' => ∃ gA gB, v = .agg #[.slice (some ⟨gA, 0, none⟩) (cl n) (cl n), .slice (some ⟨gB, 0, none⟩) (cl n) (cl n)] ∧ RdT F 3 w' (cl n) (some ⟨gA, 0, none⟩) (ints .i64 (List.replicate (cl n) 0)) ∧ RdT F 4 w' (cl n) (some ⟨gB, 0, none⟩) (boolsV (List.replicate (cl n) false)) ∧ Tch N0 w w' := by
  have fin : ∀ (u : Nat) (v : Value) (w' : World), u ≤ 1048576 → (∃ gA gB, v = .agg #[.slice (some ⟨gA, 0, none⟩) u u, .slice (some ⟨gB, 0, none⟩) u u] ∧ Blk w' gA 3 (ints .i64 (List.replicate u 0)) ∧ Blk w' gB 4 (boolsV (List.replicate u false)) ∧ w.heap.size ≤ gA ∧ w.heap.size ≤ gB ∧ Tch N0 w w') →
      ∃ gA gB, v = .agg #[.slice (some ⟨gA, 0, none⟩) u u, .slice (some ⟨gB, 0, none⟩) u u] ∧ RdT F 3 w' u (some ⟨gA, 0, none⟩) (ints .i64 (List.replicate u 0)) ∧ RdT F 4 w' u (some ⟨gB, 0, none⟩) (boolsV (List.replicate u false)) ∧ Tch N0 w w' := by
    rintro u v w' hu ⟨gA, gB, e, hA, hB, z1, z2, hT⟩
    refine ⟨gA, gB, e, RdT.of_blk (sp := []) (by simpa using hA) (by rw [ints_length]; simp) hu (fun q => by have := hFl _ q; omega), RdT.of_blk (sp := []) (by simpa using hB) (by rw [boolsV_length]; simp) hu (fun q => by have := hFl _ q; omega), hT⟩
  unfold cl
  split
  · rename_i h; exact (rnew_out n w h).mono fun v w' h => fin 0 v w' (by omega) h
  · obtain ⟨x, rfl⟩ : ∃ x : Nat, n = x := ⟨n.toNat, by omega⟩
    rw [Int.toNat_natCast]; exact (rnew_in x w (by omega)).mono fun v w' h => fin x v w' (by omega) h
theorem okA_zero (n : Nat) : okA (List.replicate n 0) := by
  intro j; simp only [List.getD_eq_getElem?_getD, List.getElem?_replicate]; split <;> simp
theorem Rel.zero (n : Nat) : Rel n [] (List.replicate n false) := ⟨by simp, fun v hv => by simp [List.getD_eq_getElem?_getD, hv]⟩
theorem count_split (wt : List Bool) : ∀ n, n ≤ wt.length → (wt.take n).countP id = ((List.range n).filter fun v => wt.getD v false).length := by
  intro n
  induction n with
  | zero => simp
  | succ n ih =>
    intro h
    rw [cnt_step (by omega), ih (by omega), List.range_succ, List.filter_append, List.length_append]
    congr 1
    rw [List.filter_cons, List.filter_nil]
    cases hw : wt.getD n false <;> rfl
theorem Rel.count {n : Nat} {hp : List Nat} {wt : List Bool} (h : Rel n hp wt) (hd : hp.Nodup) (hlt : ∀ x, x ∈ hp → x < n) : (wt.take n).countP id = hp.length := by
  rw [count_split wt n (by rw [h.1]; exact Nat.le_refl _)]
  refine List.Perm.length_eq ?_
  rw [List.perm_ext_iff_of_nodup (List.Pairwise.filter _ List.nodup_range) hd]
  intro a
  simp only [List.mem_filter, List.mem_range]
  constructor
  · rintro ⟨h1, h2⟩
    rw [h.2 a h1] at h2
    simpa using h2
  · intro h1
    exact ⟨hlt a h1, by rw [h.2 a (hlt a h1)]; simpa using h1⟩
theorem rlen_lit (n : Nat) (A B : Option Addr) (ca cb : Nat) (ac : List Int) (wt : List Bool) (hp : List Nat) (w : World) (hA : RdW w 1 n A (ints .i64 ac)) (hB : RdW w 1 n B (boolsV wt)) (hn : n ≤ 1048576) (h : Rel n hp wt) (hd : hp.Nodup) (hlt : ∀ x, x ∈ hp → x < n) :
    Ret Try.prog 21 [.agg #[.slice A n ca, .slice B n cb]] w fun v w' => v = .int .i64 (hp.length : Int) ∧ Tch N0 w w' := (rlen_ok n A B ca cb ac wt w hA hB hn).mono fun _ _ ⟨e, hT⟩ => ⟨by rw [e, h.count hd hlt], hT⟩
theorem Rel.has_t {n : Nat} {hp : List Nat} {wt : List Bool} (h : Rel n hp wt) {v : Int} (h0 : 0 ≤ v) (h1 : v < n) : HeapP.hasB hp v = wt.getD v.toNat false := by
  rw [h.2 v.toNat (by omega)]; unfold HeapP.hasB; simp [h0]
theorem has_f {n : Nat} {hp : List Nat} (hlt : ∀ x, x ∈ hp → x < n) {v : Int} (h : v < 0 ∨ (n : Int) ≤ v) : HeapP.hasB hp v = false := (HeapP.has_none hlt h).symm
theorem act_t {ac : List Int} {n : Nat} (hl : ac.length = n) {v : Int} (h0 : 0 ≤ v) (h1 : v < n) : HeapP.actB ac v = ac.getD v.toNat 0 := by unfold HeapP.actB; rw [if_pos (by omega)]
theorem act_f {ac : List Int} {n : Nat} (hl : ac.length = n) {v : Int} (h : v < 0 ∨ (n : Int) ≤ v) : HeapP.actB ac v = 0 := by unfold HeapP.actB; rw [if_neg (by omega)]
theorem cl_le (n : Int) : cl n ≤ 1048576 := by unfold cl; split <;> omega
end Go.Proofs.YthfjceemphhgcaaV
