/- Walks of functions of the program and of the document's texts. The conditions stand with each theorem. -/
import Derived.Test.YtnlecdpiccgdpaaVx13
import Derived.Test.YtnlecdpiccgdpaaProg
import Derived.Test.YtnlecdpiccgdpaaVx4
import Derived.Test.YtnlecdpiccgdpaaRunP
set_option linter.unusedVariables false
set_option linter.unusedSimpArgs false
namespace Go.Proofs.YtnlecdpiccgdpaaV
open Go Go.RowKit Go.Proofs

/-- A row of clauses. -/
def Cls (w : World) (Lv : List Value) (cs : List (List Nat)) : Prop := ∀ i, i < cs.length → ∃ C m cc, Lv[i]? = some (.slice C m cc) ∧ RdW w 1 m C (nats (cs.getD i []))

theorem Kn.set {kn : List Bool} {x v : Nat} (h : Kn kn x) (hv : v < kn.length) : Kn (kn.set v true) x := by
  unfold Kn at *
  rw [setBb _ _ _ _ hv]
  split
  · rfl
  · exact h
theorem Kn_put {kn : List Bool} {hol : List Nat} {i : Nat} (h : ∀ j, j < i → Kn kn (hol.getD j 0)) (hv : hol.getD i 0 / 2 < kn.length) : ∀ j, j < i + 1 → Kn (kn.set (hol.getD i 0 / 2) true) (hol.getD j 0) := fun j hj => by
  by_cases e : j = i
  · subst e
    unfold Kn
    rw [setBb _ _ _ _ hv, if_pos rfl]
  · exact (h j (by omega)).set hv
theorem cmem {cs : List (List Nat)} {i : Nat} (h : i < cs.length) : cs.getD i [] ∈ cs := by
  rw [List.getD_eq_getElem?_getD, List.getElem?_eq_getElem h]; exact List.getElem_mem h
theorem cmemg {cs : List (List Nat)} {c : List Nat} (h : c ∈ cs) : ∃ j, j < cs.length ∧ cs.getD j [] = c := by
  obtain ⟨j, hj, e⟩ := List.getElem_of_mem h
  exact ⟨j, hj, by rw [List.getD_eq_getElem?_getD, List.getElem?_eq_getElem hj]; exact e⟩
theorem settled_put {kn tr : List Bool} {cs : List (List Nat)} {i : Nat} (h : ∀ j, j < i → Settled kn tr (cs.getD j [])) (hi : Settled kn tr (cs.getD i [])) : ∀ j, j < i + 1 → Settled kn tr (cs.getD j []) := fun j hj => by
  by_cases e : j = i
  · subst e; exact hi
  · exact h j (by omega)
theorem LeftR.neg {kn tr : List Bool} {c : List Nat} {y : Int} (h : LeftR kn tr c y) (hy : y < 0) : Settled kn tr c := by
  rcases h with ⟨_, h⟩ | ⟨x, rfl, _⟩
  · exact h
  · omega
theorem LeftR.pos {kn tr : List Bool} {c : List Nat} {y : Int} (h : LeftR kn tr c y) (hy : 0 ≤ y) : ∃ x : Nat, y = x ∧ x ∈ c ∧ ¬ Kn kn x ∧ ∀ z, z ∈ c → z ≠ x → Kn kn z ∧ hIs kn tr z = false := by
  rcases h with ⟨h, _⟩ | h
  · omega
  · exact h
theorem pass_put {kn kn2 : List Bool} {ag2 : Bool} {x : Nat} {Q : Prop} (mf : ag2 = false → kn2 = kn ∧ Q) (mt : ag2 = true → unk kn2 < unk kn) (hl : x / 2 < kn2.length) (hx : ¬ Kn kn2 x) : unk (kn2.set (x / 2) true) < unk kn := by
  have h := unk_put hl (by unfold Kn at hx; simpa using hx)
  cases ag2 with
  | false => rw [(mf rfl).1] at h ⊢; omega
  | true => have := mt rfl; omega
theorem pass_lt {kn kn2 : List Bool} {ag ag2 : Bool} {Q : Prop} (ha : ag = true) (mf : ag2 = false → kn2 = kn ∧ Q) (mt : ag2 = true → unk kn2 < unk kn) : 2 * unk kn2 + (if ag2 = true then 1 else 0) < 2 * unk kn + (if ag = true then 1 else 0) := by
  rw [if_pos ha]
  cases ag2 with
  | false => rw [(mf rfl).1]; simp
  | true => have := mt rfl; simp; omega

set_option maxRecDepth 100000 in
theorem run_ok (n hm hcp k lcp : Nat) (H L : Option Addr) (hol : List Nat) (Lv : List Value) (cs : List (List Nat)) (b : Nat → Bool) (w : World) (hH : RdW w 1 hm H (nats hol)) (hL : RdW w 1 k L Lv) (hcl : Cls w Lv cs) (hk : cs.length = k) (hn : n ≤ 35184372088832) (hfh : ∀ x, x ∈ hol → x / 2 < n ∧ lt_ b x = true) (hfc : ∀ c, c ∈ cs → True_ b c ∧ ∀ x, x ∈ c → x / 2 < n) : Ret Try.prog 49 [.int .i64 ((n : Nat) : Int), .slice H hm hcp, .slice L k lcp] w fun v w' => ∃ K J ck cj kn tr, v = .tuple #[.agg #[.slice K n ck, .slice J n cj], .bool true] ∧ RdW w' 1 n K (boolsV kn) ∧ RdW w' 1 n J (boolsV tr) ∧ kn.length = n ∧ tr.length = n ∧ Cons b kn tr ∧ (∀ x, x ∈ hol → Kn kn x) ∧ (∀ c, c ∈ cs → Settled kn tr c) ∧ Tch N0 w w' := by
  have hm63 := hH.2.1
  have hk63 := hL.2.1
  have lh : hol.length = hm := by have := hH.1; rw [nats_length] at this; omega
  refine enter Try.func49 rfl rfl ?_
  refine W_seq ?_
  refine W_region (by kernel_rfl) ?_
  refine st (by rfl) (S_new (v := .pointer (some ⟨w.heap.size, 0, none⟩)) (ob := .cells #[.slice none 0 0, .slice none 0 0] 54) (by kernel_rfl) fun w1 hT2 hs3 hB4 => ?_)
  replace hB4 : Blk w1 (w.heap.size) 54 [.slice none 0 0, .slice none 0 0] := hB4
  have hT0 := hT2
  refine sg [(7, .bool false)] (by kernel_rfl) ?_
  refine op_nil ?_
  refine W_seq ?_
  refine W_rcut (C := fun ρ' w' => ∃ (gk gt b8 : Nat) (ρ0 : Env), ρ' = updL ρ0 [(0, .int .i64 ((n : Nat) : Int)), (1, .slice H hm hcp), (2, .slice L k lcp), (6, .pointer (some ⟨w.heap.size, 0, none⟩)), (7, .bool false), (8, .pointer (some ⟨b8, 0, none⟩))] ∧ Blk w' (gk) 4 (boolsV (List.replicate n false)) ∧ Blk w' (gt) 4 (boolsV (List.replicate n false)) ∧ Blk w' (b8) 54 [.slice (some ⟨gk, 0, none⟩) n n, .slice (some ⟨gt, 0, none⟩) n n] ∧ Blk w' (w.heap.size) 54 [.slice none 0 0, .slice none 0 0] ∧ gk ≠ gt ∧ w.heap.size < b8 ∧ w.heap.size ≤ gk ∧ w.heap.size ≤ gt ∧ Tch N0 w w') ?_ ?_
  · refine W_draw (fun w' => True) (by kernel_rfl) (by kernel_rfl) (by kernel_rfl) fun w5 hT6 hh7 => ?_
    have hT0 := hT0.t0 hT6
    have hB4 := hB4.tch0 hT6
    refine dtk [0, 2] #[true, false, true, false, false, false, false] [(17, .int .i64 ((n : Nat) : Int)), (19, .int .i64 ((n : Nat) : Int))] trivial (by kernel_rfl) ?_
    refine d_three 1 3 5 (by kernel_rfl) (by rfl) (by rfl) (by rfl) (by kernel_rfl) (by kernel_rfl) (by kernel_rfl) ?_ ?_ ?_
    · refine (S_make 23 4 (.bool false) 1 1 (k1 := .i64) (k2 := .i64) (l := ((n : Nat) : Int)) (c := ((n : Nat) : Int)) (by kernel_rfl) (by kernel_rfl) (by kernel_rfl) (by kernel_rfl) (by omega) (by omega) (by omega) (by omega) fun w8 hT9 hs10 hB11 => ?_)
      have hT0 := hT0.t0 hT9
      have hB4 := hB4.tch0 hT9
      rw [madeOne _ rfl] at hB11
      rw [Nat.mul_one] at hB11
      replace hB11 : Blk w8 (w5.heap.size) 4 (boolsV (List.replicate n false)) := by simpa [ints, boolsV] using hB11
      refine ⟨trivial, ?_⟩
      refine d_two 3 5 (by kernel_rfl) (by rfl) (by rfl) (by kernel_rfl) (by kernel_rfl) ?_ ?_
      · refine (S_make 23 4 (.bool false) 1 1 (k1 := .i64) (k2 := .i64) (l := ((n : Nat) : Int)) (c := ((n : Nat) : Int)) (by kernel_rfl) (by kernel_rfl) (by kernel_rfl) (by kernel_rfl) (by omega) (by omega) (by omega) (by omega) fun w12 hT13 hs14 hB15 => ?_)
        have hT0 := hT0.t0 hT13
        have hB4 := hB4.tch0 hT13
        have hB11 := hB11.tch0 hT13
        rw [madeOne _ rfl] at hB15
        rw [Nat.mul_one] at hB15
        replace hB15 : Blk w12 (w8.heap.size) 4 (boolsV (List.replicate n false)) := by simpa [ints, boolsV] using hB15
        refine ⟨trivial, ?_⟩
        refine dtk [4] #[true, true, true, true, true, false, false] [(21, .agg #[.slice (some ⟨w5.heap.size, 0, none⟩) n n, .slice (some ⟨w8.heap.size, 0, none⟩) n n])] trivial (by kernel_rfl) ?_
        have z20 := hT0.size
        have l21 := hB4.lt
        have l22 := hB11.lt
        have l23 := hB15.lt
        refine d_one 5 (by kernel_rfl) (by rfl) (by kernel_rfl) (S_new (v := .pointer (some ⟨w12.heap.size, 0, none⟩)) (ob := .cells #[.slice none 0 0, .slice none 0 0] 54) (by kernel_rfl) fun w16 hT17 hs18 hB19 => ?_)
        replace hB19 : Blk w16 (w12.heap.size) 54 [.slice none 0 0, .slice none 0 0] := hB19
        have hT0 := hT0.t0 hT17
        have hB4 := hB4.tch0 hT17
        have hB11 := hB11.tch0 hT17
        have hB15 := hB15.tch0 hT17
        refine ⟨trivial, ?_⟩
        refine d_one 6 (by kernel_rfl) (by rfl) (by kernel_rfl) (S_storeA (b := w12.heap.size) (j := 0) (cs := [.slice (some ⟨w5.heap.size, 0, none⟩) n n, .slice (some ⟨w8.heap.size, 0, none⟩) n n]) (by kernel_rfl) (by kernel_rfl) (by kernel_rfl) (by simp [oneV]) hB19 (by simp) fun w24 hT25 hs26 hB19' => ?_)
        have hT0 := (hT0).then hT25 (fun c e => by have : c = w12.heap.size := e; omega)
        have hB4 := hB4.tch hT25 (fun e => by have : w.heap.size = w12.heap.size := e; omega)
        have hB11 := hB11.tch hT25 (hB11.ne hB19 (by decide))
        have hB15 := hB15.tch hT25 (hB15.ne hB19 (by decide))
        replace hB19 : Blk w24 w12.heap.size 54 [.slice (some ⟨w5.heap.size, 0, none⟩) n n, .slice (some ⟨w8.heap.size, 0, none⟩) n n] := hB19'
        refine ⟨trivial, ?_⟩
        refine d_done (by kernel_rfl) ?_
        have := (hT2).size
        have := (hT6).size
        have := (hT9).size
        have := (hT13).size
        have := (hT17).size
        have := (hT25).size
        exact ⟨w5.heap.size, w8.heap.size, w12.heap.size, _, updL_self (by kernel_rfl), hB11, hB15, hB19, hB4, (by omega), (by omega), (by omega), (by omega), hT0⟩
      · have z31 := hT0.size
        have l32 := hB4.lt
        have l33 := hB11.lt
        refine (S_new (v := .pointer (some ⟨w8.heap.size, 0, none⟩)) (ob := .cells #[.slice none 0 0, .slice none 0 0] 54) (by kernel_rfl) fun w27 hT28 hs29 hB30 => ?_)
        replace hB30 : Blk w27 (w8.heap.size) 54 [.slice none 0 0, .slice none 0 0] := hB30
        have hT0 := hT0.t0 hT28
        have hB4 := hB4.tch0 hT28
        have hB11 := hB11.tch0 hT28
        refine ⟨trivial, ?_⟩
        refine d_one 3 (by kernel_rfl) (by rfl) (by kernel_rfl) (S_make 23 4 (.bool false) 1 1 (k1 := .i64) (k2 := .i64) (l := ((n : Nat) : Int)) (c := ((n : Nat) : Int)) (by kernel_rfl) (by kernel_rfl) (by kernel_rfl) (by kernel_rfl) (by omega) (by omega) (by omega) (by omega) fun w34 hT35 hs36 hB37 => ?_)
        have hT0 := hT0.t0 hT35
        have hB4 := hB4.tch0 hT35
        have hB11 := hB11.tch0 hT35
        have hB30 := hB30.tch0 hT35
        rw [madeOne _ rfl] at hB37
        rw [Nat.mul_one] at hB37
        replace hB37 : Blk w34 (w27.heap.size) 4 (boolsV (List.replicate n false)) := by simpa [ints, boolsV] using hB37
        refine ⟨trivial, ?_⟩
        refine dtk [4] #[true, true, true, true, true, true, false] [(21, .agg #[.slice (some ⟨w5.heap.size, 0, none⟩) n n, .slice (some ⟨w27.heap.size, 0, none⟩) n n])] trivial (by kernel_rfl) ?_
        refine d_one 6 (by kernel_rfl) (by rfl) (by kernel_rfl) (S_storeA (b := w8.heap.size) (j := 0) (cs := [.slice (some ⟨w5.heap.size, 0, none⟩) n n, .slice (some ⟨w27.heap.size, 0, none⟩) n n]) (by kernel_rfl) (by kernel_rfl) (by kernel_rfl) (by simp [oneV]) hB30 (by simp) fun w38 hT39 hs40 hB30' => ?_)
        have hT0 := (hT0).then hT39 (fun c e => by have : c = w8.heap.size := e; omega)
        have hB4 := hB4.tch hT39 (fun e => by have : w.heap.size = w8.heap.size := e; omega)
        have hB11 := hB11.tch hT39 (hB11.ne hB30 (by decide))
        have hB37 := hB37.tch hT39 (hB37.ne hB30 (by decide))
        replace hB30 : Blk w38 w8.heap.size 54 [.slice (some ⟨w5.heap.size, 0, none⟩) n n, .slice (some ⟨w27.heap.size, 0, none⟩) n n] := hB30'
        refine ⟨trivial, ?_⟩
        refine d_done (by kernel_rfl) ?_
        have := (hT2).size
        have := (hT6).size
        have := (hT9).size
        have := (hT28).size
        have := (hT35).size
        have := (hT39).size
        exact ⟨w5.heap.size, w27.heap.size, w8.heap.size, _, updL_self (by kernel_rfl), hB11, hB37, hB30, hB4, (by omega), (by omega), (by omega), (by omega), hT0⟩
    · refine (S_make 23 4 (.bool false) 1 1 (k1 := .i64) (k2 := .i64) (l := ((n : Nat) : Int)) (c := ((n : Nat) : Int)) (by kernel_rfl) (by kernel_rfl) (by kernel_rfl) (by kernel_rfl) (by omega) (by omega) (by omega) (by omega) fun w41 hT42 hs43 hB44 => ?_)
      have hT0 := hT0.t0 hT42
      have hB4 := hB4.tch0 hT42
      rw [madeOne _ rfl] at hB44
      rw [Nat.mul_one] at hB44
      replace hB44 : Blk w41 (w5.heap.size) 4 (boolsV (List.replicate n false)) := by simpa [ints, boolsV] using hB44
      refine ⟨trivial, ?_⟩
      refine d_two 1 5 (by kernel_rfl) (by rfl) (by rfl) (by kernel_rfl) (by kernel_rfl) ?_ ?_
      · refine (S_make 23 4 (.bool false) 1 1 (k1 := .i64) (k2 := .i64) (l := ((n : Nat) : Int)) (c := ((n : Nat) : Int)) (by kernel_rfl) (by kernel_rfl) (by kernel_rfl) (by kernel_rfl) (by omega) (by omega) (by omega) (by omega) fun w45 hT46 hs47 hB48 => ?_)
        have hT0 := hT0.t0 hT46
        have hB4 := hB4.tch0 hT46
        have hB44 := hB44.tch0 hT46
        rw [madeOne _ rfl] at hB48
        rw [Nat.mul_one] at hB48
        replace hB48 : Blk w45 (w41.heap.size) 4 (boolsV (List.replicate n false)) := by simpa [ints, boolsV] using hB48
        refine ⟨trivial, ?_⟩
        refine dtk [4] #[true, true, true, true, true, false, false] [(21, .agg #[.slice (some ⟨w41.heap.size, 0, none⟩) n n, .slice (some ⟨w5.heap.size, 0, none⟩) n n])] trivial (by kernel_rfl) ?_
        have z53 := hT0.size
        have l54 := hB4.lt
        have l55 := hB44.lt
        have l56 := hB48.lt
        refine d_one 5 (by kernel_rfl) (by rfl) (by kernel_rfl) (S_new (v := .pointer (some ⟨w45.heap.size, 0, none⟩)) (ob := .cells #[.slice none 0 0, .slice none 0 0] 54) (by kernel_rfl) fun w49 hT50 hs51 hB52 => ?_)
        replace hB52 : Blk w49 (w45.heap.size) 54 [.slice none 0 0, .slice none 0 0] := hB52
        have hT0 := hT0.t0 hT50
        have hB4 := hB4.tch0 hT50
        have hB44 := hB44.tch0 hT50
        have hB48 := hB48.tch0 hT50
        refine ⟨trivial, ?_⟩
        refine d_one 6 (by kernel_rfl) (by rfl) (by kernel_rfl) (S_storeA (b := w45.heap.size) (j := 0) (cs := [.slice (some ⟨w41.heap.size, 0, none⟩) n n, .slice (some ⟨w5.heap.size, 0, none⟩) n n]) (by kernel_rfl) (by kernel_rfl) (by kernel_rfl) (by simp [oneV]) hB52 (by simp) fun w57 hT58 hs59 hB52' => ?_)
        have hT0 := (hT0).then hT58 (fun c e => by have : c = w45.heap.size := e; omega)
        have hB4 := hB4.tch hT58 (fun e => by have : w.heap.size = w45.heap.size := e; omega)
        have hB44 := hB44.tch hT58 (hB44.ne hB52 (by decide))
        have hB48 := hB48.tch hT58 (hB48.ne hB52 (by decide))
        replace hB52 : Blk w57 w45.heap.size 54 [.slice (some ⟨w41.heap.size, 0, none⟩) n n, .slice (some ⟨w5.heap.size, 0, none⟩) n n] := hB52'
        refine ⟨trivial, ?_⟩
        refine d_done (by kernel_rfl) ?_
        have := (hT2).size
        have := (hT6).size
        have := (hT42).size
        have := (hT46).size
        have := (hT50).size
        have := (hT58).size
        exact ⟨w41.heap.size, w5.heap.size, w45.heap.size, _, updL_self (by kernel_rfl), hB48, hB44, hB52, hB4, (by omega), (by omega), (by omega), (by omega), hT0⟩
      · have z64 := hT0.size
        have l65 := hB4.lt
        have l66 := hB44.lt
        refine (S_new (v := .pointer (some ⟨w41.heap.size, 0, none⟩)) (ob := .cells #[.slice none 0 0, .slice none 0 0] 54) (by kernel_rfl) fun w60 hT61 hs62 hB63 => ?_)
        replace hB63 : Blk w60 (w41.heap.size) 54 [.slice none 0 0, .slice none 0 0] := hB63
        have hT0 := hT0.t0 hT61
        have hB4 := hB4.tch0 hT61
        have hB44 := hB44.tch0 hT61
        refine ⟨trivial, ?_⟩
        refine d_one 1 (by kernel_rfl) (by rfl) (by kernel_rfl) (S_make 23 4 (.bool false) 1 1 (k1 := .i64) (k2 := .i64) (l := ((n : Nat) : Int)) (c := ((n : Nat) : Int)) (by kernel_rfl) (by kernel_rfl) (by kernel_rfl) (by kernel_rfl) (by omega) (by omega) (by omega) (by omega) fun w67 hT68 hs69 hB70 => ?_)
        have hT0 := hT0.t0 hT68
        have hB4 := hB4.tch0 hT68
        have hB44 := hB44.tch0 hT68
        have hB63 := hB63.tch0 hT68
        rw [madeOne _ rfl] at hB70
        rw [Nat.mul_one] at hB70
        replace hB70 : Blk w67 (w60.heap.size) 4 (boolsV (List.replicate n false)) := by simpa [ints, boolsV] using hB70
        refine ⟨trivial, ?_⟩
        refine dtk [4] #[true, true, true, true, true, true, false] [(21, .agg #[.slice (some ⟨w60.heap.size, 0, none⟩) n n, .slice (some ⟨w5.heap.size, 0, none⟩) n n])] trivial (by kernel_rfl) ?_
        refine d_one 6 (by kernel_rfl) (by rfl) (by kernel_rfl) (S_storeA (b := w41.heap.size) (j := 0) (cs := [.slice (some ⟨w60.heap.size, 0, none⟩) n n, .slice (some ⟨w5.heap.size, 0, none⟩) n n]) (by kernel_rfl) (by kernel_rfl) (by kernel_rfl) (by simp [oneV]) hB63 (by simp) fun w71 hT72 hs73 hB63' => ?_)
        have hT0 := (hT0).then hT72 (fun c e => by have : c = w41.heap.size := e; omega)
        have hB4 := hB4.tch hT72 (fun e => by have : w.heap.size = w41.heap.size := e; omega)
        have hB44 := hB44.tch hT72 (hB44.ne hB63 (by decide))
        have hB70 := hB70.tch hT72 (hB70.ne hB63 (by decide))
        replace hB63 : Blk w71 w41.heap.size 54 [.slice (some ⟨w60.heap.size, 0, none⟩) n n, .slice (some ⟨w5.heap.size, 0, none⟩) n n] := hB63'
        refine ⟨trivial, ?_⟩
        refine d_done (by kernel_rfl) ?_
        have := (hT2).size
        have := (hT6).size
        have := (hT42).size
        have := (hT61).size
        have := (hT68).size
        have := (hT72).size
        exact ⟨w60.heap.size, w5.heap.size, w41.heap.size, _, updL_self (by kernel_rfl), hB70, hB44, hB63, hB4, (by omega), (by omega), (by omega), (by omega), hT0⟩
    · have z78 := hT0.size
      have l79 := hB4.lt
      refine (S_new (v := .pointer (some ⟨w5.heap.size, 0, none⟩)) (ob := .cells #[.slice none 0 0, .slice none 0 0] 54) (by kernel_rfl) fun w74 hT75 hs76 hB77 => ?_)
      replace hB77 : Blk w74 (w5.heap.size) 54 [.slice none 0 0, .slice none 0 0] := hB77
      have hT0 := hT0.t0 hT75
      have hB4 := hB4.tch0 hT75
      refine ⟨trivial, ?_⟩
      refine d_two 1 3 (by kernel_rfl) (by rfl) (by rfl) (by kernel_rfl) (by kernel_rfl) ?_ ?_
      · refine (S_make 23 4 (.bool false) 1 1 (k1 := .i64) (k2 := .i64) (l := ((n : Nat) : Int)) (c := ((n : Nat) : Int)) (by kernel_rfl) (by kernel_rfl) (by kernel_rfl) (by kernel_rfl) (by omega) (by omega) (by omega) (by omega) fun w80 hT81 hs82 hB83 => ?_)
        have hT0 := hT0.t0 hT81
        have hB4 := hB4.tch0 hT81
        have hB77 := hB77.tch0 hT81
        rw [madeOne _ rfl] at hB83
        rw [Nat.mul_one] at hB83
        replace hB83 : Blk w80 (w74.heap.size) 4 (boolsV (List.replicate n false)) := by simpa [ints, boolsV] using hB83
        refine ⟨trivial, ?_⟩
        refine d_one 3 (by kernel_rfl) (by rfl) (by kernel_rfl) (S_make 23 4 (.bool false) 1 1 (k1 := .i64) (k2 := .i64) (l := ((n : Nat) : Int)) (c := ((n : Nat) : Int)) (by kernel_rfl) (by kernel_rfl) (by kernel_rfl) (by kernel_rfl) (by omega) (by omega) (by omega) (by omega) fun w84 hT85 hs86 hB87 => ?_)
        have hT0 := hT0.t0 hT85
        have hB4 := hB4.tch0 hT85
        have hB77 := hB77.tch0 hT85
        have hB83 := hB83.tch0 hT85
        rw [madeOne _ rfl] at hB87
        rw [Nat.mul_one] at hB87
        replace hB87 : Blk w84 (w80.heap.size) 4 (boolsV (List.replicate n false)) := by simpa [ints, boolsV] using hB87
        refine ⟨trivial, ?_⟩
        refine dtk [4] #[true, true, true, true, true, true, false] [(21, .agg #[.slice (some ⟨w74.heap.size, 0, none⟩) n n, .slice (some ⟨w80.heap.size, 0, none⟩) n n])] trivial (by kernel_rfl) ?_
        refine d_one 6 (by kernel_rfl) (by rfl) (by kernel_rfl) (S_storeA (b := w5.heap.size) (j := 0) (cs := [.slice (some ⟨w74.heap.size, 0, none⟩) n n, .slice (some ⟨w80.heap.size, 0, none⟩) n n]) (by kernel_rfl) (by kernel_rfl) (by kernel_rfl) (by simp [oneV]) hB77 (by simp) fun w88 hT89 hs90 hB77' => ?_)
        have hT0 := (hT0).then hT89 (fun c e => by have : c = w5.heap.size := e; omega)
        have hB4 := hB4.tch hT89 (fun e => by have : w.heap.size = w5.heap.size := e; omega)
        have hB83 := hB83.tch hT89 (hB83.ne hB77 (by decide))
        have hB87 := hB87.tch hT89 (hB87.ne hB77 (by decide))
        replace hB77 : Blk w88 w5.heap.size 54 [.slice (some ⟨w74.heap.size, 0, none⟩) n n, .slice (some ⟨w80.heap.size, 0, none⟩) n n] := hB77'
        refine ⟨trivial, ?_⟩
        refine d_done (by kernel_rfl) ?_
        have := (hT2).size
        have := (hT6).size
        have := (hT75).size
        have := (hT81).size
        have := (hT85).size
        have := (hT89).size
        exact ⟨w74.heap.size, w80.heap.size, w5.heap.size, _, updL_self (by kernel_rfl), hB83, hB87, hB77, hB4, (by omega), (by omega), (by omega), (by omega), hT0⟩
      · refine (S_make 23 4 (.bool false) 1 1 (k1 := .i64) (k2 := .i64) (l := ((n : Nat) : Int)) (c := ((n : Nat) : Int)) (by kernel_rfl) (by kernel_rfl) (by kernel_rfl) (by kernel_rfl) (by omega) (by omega) (by omega) (by omega) fun w91 hT92 hs93 hB94 => ?_)
        have hT0 := hT0.t0 hT92
        have hB4 := hB4.tch0 hT92
        have hB77 := hB77.tch0 hT92
        rw [madeOne _ rfl] at hB94
        rw [Nat.mul_one] at hB94
        replace hB94 : Blk w91 (w74.heap.size) 4 (boolsV (List.replicate n false)) := by simpa [ints, boolsV] using hB94
        refine ⟨trivial, ?_⟩
        refine d_one 1 (by kernel_rfl) (by rfl) (by kernel_rfl) (S_make 23 4 (.bool false) 1 1 (k1 := .i64) (k2 := .i64) (l := ((n : Nat) : Int)) (c := ((n : Nat) : Int)) (by kernel_rfl) (by kernel_rfl) (by kernel_rfl) (by kernel_rfl) (by omega) (by omega) (by omega) (by omega) fun w95 hT96 hs97 hB98 => ?_)
        have hT0 := hT0.t0 hT96
        have hB4 := hB4.tch0 hT96
        have hB77 := hB77.tch0 hT96
        have hB94 := hB94.tch0 hT96
        rw [madeOne _ rfl] at hB98
        rw [Nat.mul_one] at hB98
        replace hB98 : Blk w95 (w91.heap.size) 4 (boolsV (List.replicate n false)) := by simpa [ints, boolsV] using hB98
        refine ⟨trivial, ?_⟩
        refine dtk [4] #[true, true, true, true, true, true, false] [(21, .agg #[.slice (some ⟨w91.heap.size, 0, none⟩) n n, .slice (some ⟨w74.heap.size, 0, none⟩) n n])] trivial (by kernel_rfl) ?_
        refine d_one 6 (by kernel_rfl) (by rfl) (by kernel_rfl) (S_storeA (b := w5.heap.size) (j := 0) (cs := [.slice (some ⟨w91.heap.size, 0, none⟩) n n, .slice (some ⟨w74.heap.size, 0, none⟩) n n]) (by kernel_rfl) (by kernel_rfl) (by kernel_rfl) (by simp [oneV]) hB77 (by simp) fun w99 hT100 hs101 hB77' => ?_)
        have hT0 := (hT0).then hT100 (fun c e => by have : c = w5.heap.size := e; omega)
        have hB4 := hB4.tch hT100 (fun e => by have : w.heap.size = w5.heap.size := e; omega)
        have hB94 := hB94.tch hT100 (hB94.ne hB77 (by decide))
        have hB98 := hB98.tch hT100 (hB98.ne hB77 (by decide))
        replace hB77 : Blk w99 w5.heap.size 54 [.slice (some ⟨w91.heap.size, 0, none⟩) n n, .slice (some ⟨w74.heap.size, 0, none⟩) n n] := hB77'
        refine ⟨trivial, ?_⟩
        refine d_done (by kernel_rfl) ?_
        have := (hT2).size
        have := (hT6).size
        have := (hT75).size
        have := (hT92).size
        have := (hT96).size
        have := (hT100).size
        exact ⟨w91.heap.size, w74.heap.size, w5.heap.size, _, updL_self (by kernel_rfl), hB98, hB94, hB77, hB4, (by omega), (by omega), (by omega), (by omega), hT0⟩
  · rintro _ w102 ⟨gk, gt, b8, ρ, rfl, hKn, hTr, hV, hB6, nkt, z1, z2, z3, hT0⟩
    refine W_seq ?_
    refine W_seq ?_
    refine W_region (by kernel_rfl) ?_
    refine sg [(9, .int .i64 0)] (by kernel_rfl) ?_
    refine op_nil ?_
    refine W_block ?_
    refine W_loop (fun m ρ w' => ∃ (kn tr : List Bool) (i : Nat) (ρ0 : Env), ρ = updL ρ0 [(0, .int .i64 ((n : Nat) : Int)), (1, .slice H hm hcp), (2, .slice L k lcp), (6, .pointer (some ⟨w.heap.size, 0, none⟩)), (7, .bool false), (8, .pointer (some ⟨b8, 0, none⟩)), (9, .int .i64 ((i : Nat) : Int))] ∧ (kn.length = n) ∧ (tr.length = n) ∧ (Cons b kn tr) ∧ (∀ j, j < i → Kn kn (hol.getD j 0)) ∧ (i ≤ hm) ∧ Tch N0 w w' ∧ Blk w' (gk) 4 (boolsV kn) ∧ Blk w' (gt) 4 (boolsV tr) ∧ Blk w' (b8) 54 [.slice (some ⟨gk, 0, none⟩) n n, .slice (some ⟨gt, 0, none⟩) n n] ∧ Blk w' (w.heap.size) 54 [.slice none 0 0, .slice none 0 0] ∧ m = hm - i) (m := hm - 0) ?_ ?_
    · refine ⟨List.replicate n false, List.replicate n false, 0, _, updL_self (by kernel_rfl), by simp, by simp, Cons.zero _ _ _, by intro j h; omega, by omega, hT0, hKn, hTr, hV, hB6, rfl⟩
    · rintro m ρ w104 ⟨kn, tr, i, ρ, rfl, l1, l2, hc, hh, hi, hT0, hKn, hTr, hV, hB6, rfl⟩
      have hfi : i < hm → hol.getD i 0 / 2 < n := fun h => (hfh _ (gmem (by omega))).1
      have hfl : i < hm → lt_ b (hol.getD i 0) = true := fun h => (hfh _ (gmem (by omega))).2
      refine W_seq ?_
      refine W_seq ?_
      refine W_region (by kernel_rfl) ?_
      refine sg [(22, .int .i64 ((i : Nat) : Int)), (23, .slice H hm hcp), (24, .int .i64 (hm : Int)), (25, .bool (decide (((i : Nat) : Int) < (hm : Int))))] (by kernel_rfl) ?_
      refine op_nil ?_
      refine W_cond (decide (((i : Nat) : Int) < (hm : Int))) (by kernel_rfl) (by kernel_rfl) (fun hc105 => ?_) (fun hc105 => ?_)
      · replace hc105 : ((i : Nat) : Int) < (hm : Int) := (of_decide_eq_true hc105)
        refine W_skip ?_
        refine W_seq ?_
        refine W_block ?_
        refine W_seq ?_
        refine W_region (by kernel_rfl) ?_
        refine sg [(28, .slice H hm hcp), (29, .int .i64 ((i : Nat) : Int))] (by kernel_rfl) ?_
        refine stv (v := ptrAt H i) (by rfl) (R_indexRd1 (len := hm) (cap := hcp) (k := .i64) (i := ((i : Nat) : Int)) (e := 3) i (hH.tch0 hT0) (by kernel_rfl) (by kernel_rfl) (by kernel_rfl) (by kernel_rfl) rfl (by omega)) ?_
        refine stv (v := .int .i64 ((hol.getD i 0 : Nat) : Int)) (by rfl) (R_loadRd (v := .int .i64 ((hol.getD i 0 : Nat) : Int)) (hH.tch0 hT0) (by omega) (by kernel_rfl) (by kernel_rfl) (nats_at (l := hol) (by omega))) ?_
        refine sg [(10, .int .i64 ((hol.getD i 0 : Nat) : Int))] (by kernel_rfl) ?_
        refine op_nil ?_
        refine W_seq ?_
        refine W_seq ?_
        refine W_fg [(0, .int .i64 ((n : Nat) : Int)), (1, .slice H hm hcp), (2, .slice L k lcp), (6, .pointer (some ⟨w.heap.size, 0, none⟩)), (7, .bool false), (8, .pointer (some ⟨b8, 0, none⟩)), (9, .int .i64 ((i : Nat) : Int)), (10, .int .i64 ((hol.getD i 0 : Nat) : Int)), (25, .bool (decide (((i : Nat) : Int) < (hm : Int))))] (by kernel_rfl) fun ρ => ?_
        refine W_region (by kernel_rfl) ?_
        refine st (by rfl) (S_val (v := .agg #[.slice (some ⟨gk, 0, none⟩) n n, .slice (some ⟨gt, 0, none⟩) n n]) (R_loadA [.slice (some ⟨gk, 0, none⟩) n n, .slice (some ⟨gt, 0, none⟩) n n] (by kernel_rfl) (by kernel_rfl) (by kernel_rfl) (fun k u hk => by rw [hV.cell]; exact get_part _ 0 _ k u rfl hk)) ?_)
        refine sg [(33, .int .i64 ((hol.getD i 0 : Nat) : Int))] (by kernel_rfl) ?_
        refine st (by rfl) (S_call (args := [.agg #[.slice (some ⟨gk, 0, none⟩) n n, .slice (some ⟨gt, 0, none⟩) n n], .int .i64 ((hol.getD i 0 : Nat) : Int)]) (by kernel_rfl) (fits_ok n (some ⟨gk, 0, none⟩) n (.slice (some ⟨gt, 0, none⟩) n n) (hol.getD i 0) _ (by omega)) ?_)
        rintro _ w106 ⟨rfl, hT107⟩
        have hT0 := hT0.t0 hT107
        have hKn := hKn.tch0 hT107
        have hTr := hTr.tch0 hT107
        have hV := hV.tch0 hT107
        have hB6 := hB6.tch0 hT107
        refine sg [(35, .bool (!(decide (hol.getD i 0 / 2 < n))))] (by kernel_rfl) ?_
        refine op_nil ?_
        refine W_cond (!(decide (hol.getD i 0 / 2 < n))) (by kernel_rfl) (by kernel_rfl) (fun hc108 => ?_) (fun hc108 => ?_)
        · replace hc108 : n ≤ hol.getD i 0 / 2 := (Nat.not_lt.1 (of_decide_eq_false (not_t hc108)))
          exfalso; omega
        · replace hc108 : hol.getD i 0 / 2 < n := (of_decide_eq_true (not_f hc108))
          refine W_skip ?_
          refine W_seq ?_
          refine W_seq ?_
          refine W_region (by kernel_rfl) ?_
          refine st (by rfl) (S_val (v := .agg #[.slice (some ⟨gk, 0, none⟩) n n, .slice (some ⟨gt, 0, none⟩) n n]) (R_loadA [.slice (some ⟨gk, 0, none⟩) n n, .slice (some ⟨gt, 0, none⟩) n n] (by kernel_rfl) (by kernel_rfl) (by kernel_rfl) (fun k u hk => by rw [hV.cell]; exact get_part _ 0 _ k u rfl hk)) ?_)
          refine sg [(39, .int .i64 ((hol.getD i 0 : Nat) : Int))] (by kernel_rfl) ?_
          refine st (by rfl) (S_call (args := [.agg #[.slice (some ⟨gk, 0, none⟩) n n, .slice (some ⟨gt, 0, none⟩) n n], .int .i64 ((hol.getD i 0 : Nat) : Int)]) (by kernel_rfl) (holds_ok n (some ⟨gk, 0, none⟩) (some ⟨gt, 0, none⟩) n n kn tr (hol.getD i 0) _ (hKn.rd 1 n (by rw [boolsV_length]; omega) (by omega)) (hTr.rd 1 n (by rw [boolsV_length]; omega) (by omega)) (by omega) (by omega) (by omega)) ?_)
          rintro _ w109 ⟨rfl, hT110⟩
          have hT0 := hT0.t0 hT110
          have hKn := hKn.tch0 hT110
          have hTr := hTr.tch0 hT110
          have hV := hV.tch0 hT110
          have hB6 := hB6.tch0 hT110
          refine sg [(37, .tuple #[.bool (hIs kn tr (hol.getD i 0)), .bool (kn.getD ((hol.getD i 0) / 2) false)]), (41, .bool (hIs kn tr (hol.getD i 0))), (42, .bool (kn.getD ((hol.getD i 0) / 2) false)), (11, .bool (hIs kn tr (hol.getD i 0))), (12, .bool (kn.getD ((hol.getD i 0) / 2) false))] (by kernel_rfl) ?_
          refine op_nil ?_
          refine W_seq ?_
          refine W_fg [(0, .int .i64 ((n : Nat) : Int)), (1, .slice H hm hcp), (2, .slice L k lcp), (6, .pointer (some ⟨w.heap.size, 0, none⟩)), (7, .bool false), (8, .pointer (some ⟨b8, 0, none⟩)), (9, .int .i64 ((i : Nat) : Int)), (10, .int .i64 ((hol.getD i 0 : Nat) : Int)), (11, .bool (hIs kn tr (hol.getD i 0))), (12, .bool (kn.getD ((hol.getD i 0) / 2) false)), (25, .bool (decide (((i : Nat) : Int) < (hm : Int)))), (35, .bool (!(decide (hol.getD i 0 / 2 < n))))] (by kernel_rfl) fun ρ => ?_
          refine W_region (by kernel_rfl) ?_
          refine sg [(43, .bool (kn.getD ((hol.getD i 0) / 2) false)), (44, .bool (kn.getD ((hol.getD i 0) / 2) false))] (by kernel_rfl) ?_
          cases hb111 : kn.getD ((hol.getD i 0) / 2) false
          · replace hb111 : kn.getD ((hol.getD i 0) / 2) false = false := (hb111)
            refine sg [(45, undef), (46, undef), (47, .bool false)] (by kernel_rfl) ?_
            refine op_nil ?_
            refine W_cond false (by kernel_rfl) (by kernel_rfl) (fun h => nomatch h) (fun _ => ?_)
            refine W_skip ?_
            refine W_seq ?_
            refine W_region (by kernel_rfl) ?_
            refine sg [(49, .pointer (some ⟨b8, 0, none⟩))] (by kernel_rfl) ?_
            refine st (by rfl) (S_val (v := .slice (some ⟨gk, 0, none⟩) n n) (R_load (v := .slice (some ⟨gk, 0, none⟩) n n) (by kernel_rfl) (by kernel_rfl) ((hV.cell 0).trans rfl)) ?_)
            refine sg [(51, .int .i64 ((hol.getD i 0 : Nat) : Int)), (52, .int .i64 (IntKind.i64.wrap (((hol.getD i 0 : Nat) : Int).tdiv 2)))] (by kernel_rfl) ?_
            rw [show IntKind.i64.wrap (((hol.getD i 0 : Nat) : Int).tdiv 2) = ((hol.getD i 0 : Nat) : Int) / 2 from by rw [Int.tdiv_eq_ediv_of_nonneg (by omega)]; exact wrap_i64 (by omega) (by omega)]
            refine fixR (y := (((hol.getD i 0) / 2 : Nat) : Int)) (by omega) ?_
            refine stv (v := .pointer (some ⟨gk, (hol.getD i 0) / 2, none⟩)) (by rfl) (R_index0 (b := gk) (len := n) (cap := n) (k := .i64) (i := (((hol.getD i 0) / 2 : Nat) : Int)) (e := 4) ((hol.getD i 0) / 2) (by kernel_rfl) (by kernel_rfl) (by kernel_rfl) (by kernel_rfl) rfl (by first | omega | (simp only [List.length_set, List.length_map]; omega))) ?_
            refine st (by rfl) (S_store (b := gk) (j := (hol.getD i 0) / 2) (v := .bool true) (by kernel_rfl) (by kernel_rfl) (by kernel_rfl) (by rfl) hKn (by (try rw [List.length_append]); rw [boolsV_length]; first | omega | (simp only [List.length_set, List.length_map]; omega)) fun w112 hT113 hs114 hKn' => ?_)
            have hT0 := (hT0).then hT113 (fun c e => by have : c = gk := e; omega)
            have hTr := hTr.tch hT113 (fun e => by have : gt = gk := e; omega)
            have hV := hV.tch hT113 (hV.ne hKn (by decide))
            have hB6 := hB6.tch hT113 (hB6.ne hKn (by decide))
            replace hKn : Blk w112 (gk) 4 (boolsV (kn.set ((hol.getD i 0) / 2) true)) := by rw [← boolsV_set]; exact hKn'
            refine op_nil ?_
            refine W_fg [(0, .int .i64 ((n : Nat) : Int)), (1, .slice H hm hcp), (2, .slice L k lcp), (6, .pointer (some ⟨w.heap.size, 0, none⟩)), (7, .bool false), (8, .pointer (some ⟨b8, 0, none⟩)), (9, .int .i64 ((i : Nat) : Int)), (10, .int .i64 ((hol.getD i 0 : Nat) : Int)), (11, .bool (hIs kn tr (hol.getD i 0))), (12, .bool false), (25, .bool (decide (((i : Nat) : Int) < (hm : Int)))), (35, .bool (!(decide (hol.getD i 0 / 2 < n)))), (47, .bool false)] (by kernel_rfl) fun ρ => ?_
            refine W_draw (fun w' => Blk w' (b8) 54 [.slice (some ⟨gk, 0, none⟩) n n, .slice (some ⟨gt, 0, none⟩) n n]) (by kernel_rfl) (by kernel_rfl) (by kernel_rfl) fun w115 hT116 hh117 => ?_
            have hT0 := hT0.t0 hT116
            have hKn := hKn.tch0 hT116
            have hTr := hTr.tch0 hT116
            have hV := hV.tch0 hT116
            have hB6 := hB6.tch0 hT116
            refine dtk [0, 2, 4] #[true, false, true, false, true, false, false, false, false] [(54, .pointer (some ⟨b8, 1, none⟩)), (56, .int .i64 ((hol.getD i 0 : Nat) : Int)), (58, .int .i64 ((hol.getD i 0 : Nat) : Int))] hV (by kernel_rfl) ?_
            refine d_val (v := .slice (some ⟨gt, 0, none⟩) n n) 1 (by rfl) (by kernel_rfl) (by kernel_rfl) (by kernel_rfl) (fun w' hs => by have hV := hs; exact R_load (v := .slice (some ⟨gt, 0, none⟩) n n) (by kernel_rfl) (by kernel_rfl) ((hV.cell 1).trans rfl)) hV ?_
            refine dtk [3] #[true, true, true, true, true, false, false, false, false] [(57, .int .i64 (IntKind.i64.wrap (((hol.getD i 0 : Nat) : Int).tdiv 2)))] hV (by kernel_rfl) ?_
            rw [show IntKind.i64.wrap (((hol.getD i 0 : Nat) : Int).tdiv 2) = ((hol.getD i 0 : Nat) : Int) / 2 from by rw [Int.tdiv_eq_ediv_of_nonneg (by omega)]; exact wrap_i64 (by omega) (by omega)]
            refine fixD (y := (((hol.getD i 0) / 2 : Nat) : Int)) (by omega) ?_
            refine d_one 5 (by kernel_rfl) (by rfl) (by kernel_rfl) (S_call (args := [.int .i64 ((hol.getD i 0 : Nat) : Int)]) (by kernel_rfl) (rneg_ok (hol.getD i 0) _ (by omega)) ?_)
            rintro _ w118 ⟨rfl, hT119⟩
            have hT0 := hT0.t0 hT119
            have hKn := hKn.tch0 hT119
            have hTr := hTr.tch0 hT119
            have hV := hV.tch0 hT119
            have hB6 := hB6.tch0 hT119
            refine ⟨hV, ?_⟩
            refine dtk [6] #[true, true, true, true, true, true, true, false, false] [(60, .bool (!(decide (hol.getD i 0 % 2 = 1))))] hV (by kernel_rfl) ?_
            refine d_val (v := .pointer (some ⟨gt, (hol.getD i 0) / 2, none⟩)) 7 (by rfl) (by kernel_rfl) (by kernel_rfl) (by kernel_rfl) (fun w' hs => by have hV := hs; exact R_index0 (b := gt) (len := n) (cap := n) (k := .i64) (i := (((hol.getD i 0) / 2 : Nat) : Int)) (e := 4) ((hol.getD i 0) / 2) (by kernel_rfl) (by kernel_rfl) (by kernel_rfl) (by kernel_rfl) rfl (by first | omega | (simp only [List.length_set, List.length_map]; omega))) hV ?_
            refine d_one 8 (by kernel_rfl) (by rfl) (by kernel_rfl) (S_store (b := gt) (j := (hol.getD i 0) / 2) (v := .bool (!(decide (hol.getD i 0 % 2 = 1)))) (by kernel_rfl) (by kernel_rfl) (by kernel_rfl) (by rfl) hTr (by (try rw [List.length_append]); rw [boolsV_length]; first | omega | (simp only [List.length_set, List.length_map]; omega)) fun w120 hT121 hs122 hTr' => ?_)
            have hT0 := (hT0).then hT121 (fun c e => by have : c = gt := e; omega)
            have hKn := hKn.tch hT121 (fun e => by have : gk = gt := e; omega)
            have hV := hV.tch hT121 (hV.ne hTr (by decide))
            have hB6 := hB6.tch hT121 (hB6.ne hTr (by decide))
            replace hTr : Blk w120 (gt) 4 (boolsV (tr.set ((hol.getD i 0) / 2) (!(decide (hol.getD i 0 % 2 = 1))))) := by rw [← boolsV_set]; exact hTr'
            refine ⟨hV, ?_⟩
            refine d_done (by kernel_rfl) ?_
            refine W_fg [(0, .int .i64 ((n : Nat) : Int)), (1, .slice H hm hcp), (2, .slice L k lcp), (6, .pointer (some ⟨w.heap.size, 0, none⟩)), (7, .bool false), (8, .pointer (some ⟨b8, 0, none⟩)), (9, .int .i64 ((i : Nat) : Int)), (10, .int .i64 ((hol.getD i 0 : Nat) : Int)), (11, .bool (hIs kn tr (hol.getD i 0))), (12, .bool false), (25, .bool (decide (((i : Nat) : Int) < (hm : Int)))), (35, .bool (!(decide (hol.getD i 0 / 2 < n)))), (47, .bool false)] (by kernel_rfl) fun ρ => ?_
            refine W_region (by kernel_rfl) ?_
            refine sg [(26, .int .i64 ((i : Nat) : Int)), (27, .int .i64 (IntKind.i64.wrap (((i : Nat) : Int) + 1)))] (by kernel_rfl) ?_
            rw [show IntKind.i64.wrap (((i : Nat) : Int) + 1) = ((i : Nat) : Int) + 1 from wrap_i64 (by omega) (by omega)]
            refine sg [(9, .int .i64 (((i : Nat) : Int) + 1))] (by kernel_rfl) ?_
            refine op_nil ?_
            refine ⟨_, ?_, kn.set ((hol.getD i 0) / 2) true, tr.set ((hol.getD i 0) / 2) (!(decide (hol.getD i 0 % 2 = 1))), i + 1, _, updL_self (by kernel_rfl), ?_, ?_, ?_, ?_, ?_, hT0, hKn, hTr, hV, hB6, rfl⟩
            · omega
            · rw [List.length_set]; exact l1
            · rw [List.length_set]; exact l2
            · exact hc.put (hfl (by omega)) (by omega) (by omega)
            · exact Kn_put hh (by omega)
            · omega
          · replace hb111 : kn.getD ((hol.getD i 0) / 2) false = true := (hb111)
            refine sg [(45, .bool (hIs kn tr (hol.getD i 0))), (46, .bool (!(hIs kn tr (hol.getD i 0)))), (47, .bool (!(hIs kn tr (hol.getD i 0))))] (by kernel_rfl) ?_
            refine op_nil ?_
            refine W_cond (!(hIs kn tr (hol.getD i 0))) (by kernel_rfl) (by kernel_rfl) (fun hc123 => ?_) (fun hc123 => ?_)
            · replace hc123 : hIs kn tr (hol.getD i 0) = false := ((not_t hc123))
              exfalso; have q := (hc.is (show Kn kn (hol.getD i 0) by unfold Kn; assumption)).symm.trans hc123; rw [hfl (by omega)] at q; cases q
            · replace hc123 : hIs kn tr (hol.getD i 0) = true := ((not_f hc123))
              refine W_skip ?_
              refine W_seq ?_
              refine W_region (by kernel_rfl) ?_
              refine sg [(49, .pointer (some ⟨b8, 0, none⟩))] (by kernel_rfl) ?_
              refine st (by rfl) (S_val (v := .slice (some ⟨gk, 0, none⟩) n n) (R_load (v := .slice (some ⟨gk, 0, none⟩) n n) (by kernel_rfl) (by kernel_rfl) ((hV.cell 0).trans rfl)) ?_)
              refine sg [(51, .int .i64 ((hol.getD i 0 : Nat) : Int)), (52, .int .i64 (IntKind.i64.wrap (((hol.getD i 0 : Nat) : Int).tdiv 2)))] (by kernel_rfl) ?_
              rw [show IntKind.i64.wrap (((hol.getD i 0 : Nat) : Int).tdiv 2) = ((hol.getD i 0 : Nat) : Int) / 2 from by rw [Int.tdiv_eq_ediv_of_nonneg (by omega)]; exact wrap_i64 (by omega) (by omega)]
              refine fixR (y := (((hol.getD i 0) / 2 : Nat) : Int)) (by omega) ?_
              refine stv (v := .pointer (some ⟨gk, (hol.getD i 0) / 2, none⟩)) (by rfl) (R_index0 (b := gk) (len := n) (cap := n) (k := .i64) (i := (((hol.getD i 0) / 2 : Nat) : Int)) (e := 4) ((hol.getD i 0) / 2) (by kernel_rfl) (by kernel_rfl) (by kernel_rfl) (by kernel_rfl) rfl (by first | omega | (simp only [List.length_set, List.length_map]; omega))) ?_
              refine st (by rfl) (S_store (b := gk) (j := (hol.getD i 0) / 2) (v := .bool true) (by kernel_rfl) (by kernel_rfl) (by kernel_rfl) (by rfl) hKn (by (try rw [List.length_append]); rw [boolsV_length]; first | omega | (simp only [List.length_set, List.length_map]; omega)) fun w124 hT125 hs126 hKn' => ?_)
              have hT0 := (hT0).then hT125 (fun c e => by have : c = gk := e; omega)
              have hTr := hTr.tch hT125 (fun e => by have : gt = gk := e; omega)
              have hV := hV.tch hT125 (hV.ne hKn (by decide))
              have hB6 := hB6.tch hT125 (hB6.ne hKn (by decide))
              replace hKn : Blk w124 (gk) 4 (boolsV (kn.set ((hol.getD i 0) / 2) true)) := by rw [← boolsV_set]; exact hKn'
              refine op_nil ?_
              refine W_fg [(0, .int .i64 ((n : Nat) : Int)), (1, .slice H hm hcp), (2, .slice L k lcp), (6, .pointer (some ⟨w.heap.size, 0, none⟩)), (7, .bool false), (8, .pointer (some ⟨b8, 0, none⟩)), (9, .int .i64 ((i : Nat) : Int)), (10, .int .i64 ((hol.getD i 0 : Nat) : Int)), (11, .bool (hIs kn tr (hol.getD i 0))), (12, .bool true), (25, .bool (decide (((i : Nat) : Int) < (hm : Int)))), (35, .bool (!(decide (hol.getD i 0 / 2 < n)))), (47, .bool (!(hIs kn tr (hol.getD i 0))))] (by kernel_rfl) fun ρ => ?_
              refine W_draw (fun w' => Blk w' (b8) 54 [.slice (some ⟨gk, 0, none⟩) n n, .slice (some ⟨gt, 0, none⟩) n n]) (by kernel_rfl) (by kernel_rfl) (by kernel_rfl) fun w127 hT128 hh129 => ?_
              have hT0 := hT0.t0 hT128
              have hKn := hKn.tch0 hT128
              have hTr := hTr.tch0 hT128
              have hV := hV.tch0 hT128
              have hB6 := hB6.tch0 hT128
              refine dtk [0, 2, 4] #[true, false, true, false, true, false, false, false, false] [(54, .pointer (some ⟨b8, 1, none⟩)), (56, .int .i64 ((hol.getD i 0 : Nat) : Int)), (58, .int .i64 ((hol.getD i 0 : Nat) : Int))] hV (by kernel_rfl) ?_
              refine d_val (v := .slice (some ⟨gt, 0, none⟩) n n) 1 (by rfl) (by kernel_rfl) (by kernel_rfl) (by kernel_rfl) (fun w' hs => by have hV := hs; exact R_load (v := .slice (some ⟨gt, 0, none⟩) n n) (by kernel_rfl) (by kernel_rfl) ((hV.cell 1).trans rfl)) hV ?_
              refine dtk [3] #[true, true, true, true, true, false, false, false, false] [(57, .int .i64 (IntKind.i64.wrap (((hol.getD i 0 : Nat) : Int).tdiv 2)))] hV (by kernel_rfl) ?_
              rw [show IntKind.i64.wrap (((hol.getD i 0 : Nat) : Int).tdiv 2) = ((hol.getD i 0 : Nat) : Int) / 2 from by rw [Int.tdiv_eq_ediv_of_nonneg (by omega)]; exact wrap_i64 (by omega) (by omega)]
              refine fixD (y := (((hol.getD i 0) / 2 : Nat) : Int)) (by omega) ?_
              refine d_one 5 (by kernel_rfl) (by rfl) (by kernel_rfl) (S_call (args := [.int .i64 ((hol.getD i 0 : Nat) : Int)]) (by kernel_rfl) (rneg_ok (hol.getD i 0) _ (by omega)) ?_)
              rintro _ w130 ⟨rfl, hT131⟩
              have hT0 := hT0.t0 hT131
              have hKn := hKn.tch0 hT131
              have hTr := hTr.tch0 hT131
              have hV := hV.tch0 hT131
              have hB6 := hB6.tch0 hT131
              refine ⟨hV, ?_⟩
              refine dtk [6] #[true, true, true, true, true, true, true, false, false] [(60, .bool (!(decide (hol.getD i 0 % 2 = 1))))] hV (by kernel_rfl) ?_
              refine d_val (v := .pointer (some ⟨gt, (hol.getD i 0) / 2, none⟩)) 7 (by rfl) (by kernel_rfl) (by kernel_rfl) (by kernel_rfl) (fun w' hs => by have hV := hs; exact R_index0 (b := gt) (len := n) (cap := n) (k := .i64) (i := (((hol.getD i 0) / 2 : Nat) : Int)) (e := 4) ((hol.getD i 0) / 2) (by kernel_rfl) (by kernel_rfl) (by kernel_rfl) (by kernel_rfl) rfl (by first | omega | (simp only [List.length_set, List.length_map]; omega))) hV ?_
              refine d_one 8 (by kernel_rfl) (by rfl) (by kernel_rfl) (S_store (b := gt) (j := (hol.getD i 0) / 2) (v := .bool (!(decide (hol.getD i 0 % 2 = 1)))) (by kernel_rfl) (by kernel_rfl) (by kernel_rfl) (by rfl) hTr (by (try rw [List.length_append]); rw [boolsV_length]; first | omega | (simp only [List.length_set, List.length_map]; omega)) fun w132 hT133 hs134 hTr' => ?_)
              have hT0 := (hT0).then hT133 (fun c e => by have : c = gt := e; omega)
              have hKn := hKn.tch hT133 (fun e => by have : gk = gt := e; omega)
              have hV := hV.tch hT133 (hV.ne hTr (by decide))
              have hB6 := hB6.tch hT133 (hB6.ne hTr (by decide))
              replace hTr : Blk w132 (gt) 4 (boolsV (tr.set ((hol.getD i 0) / 2) (!(decide (hol.getD i 0 % 2 = 1))))) := by rw [← boolsV_set]; exact hTr'
              refine ⟨hV, ?_⟩
              refine d_done (by kernel_rfl) ?_
              refine W_fg [(0, .int .i64 ((n : Nat) : Int)), (1, .slice H hm hcp), (2, .slice L k lcp), (6, .pointer (some ⟨w.heap.size, 0, none⟩)), (7, .bool false), (8, .pointer (some ⟨b8, 0, none⟩)), (9, .int .i64 ((i : Nat) : Int)), (10, .int .i64 ((hol.getD i 0 : Nat) : Int)), (11, .bool (hIs kn tr (hol.getD i 0))), (12, .bool true), (25, .bool (decide (((i : Nat) : Int) < (hm : Int)))), (35, .bool (!(decide (hol.getD i 0 / 2 < n)))), (47, .bool (!(hIs kn tr (hol.getD i 0))))] (by kernel_rfl) fun ρ => ?_
              refine W_region (by kernel_rfl) ?_
              refine sg [(26, .int .i64 ((i : Nat) : Int)), (27, .int .i64 (IntKind.i64.wrap (((i : Nat) : Int) + 1)))] (by kernel_rfl) ?_
              rw [show IntKind.i64.wrap (((i : Nat) : Int) + 1) = ((i : Nat) : Int) + 1 from wrap_i64 (by omega) (by omega)]
              refine sg [(9, .int .i64 (((i : Nat) : Int) + 1))] (by kernel_rfl) ?_
              refine op_nil ?_
              refine ⟨_, ?_, kn.set ((hol.getD i 0) / 2) true, tr.set ((hol.getD i 0) / 2) (!(decide (hol.getD i 0 % 2 = 1))), i + 1, _, updL_self (by kernel_rfl), ?_, ?_, ?_, ?_, ?_, hT0, hKn, hTr, hV, hB6, rfl⟩
              · omega
              · rw [List.length_set]; exact l1
              · rw [List.length_set]; exact l2
              · exact hc.put (hfl (by omega)) (by omega) (by omega)
              · exact Kn_put hh (by omega)
              · omega
      · replace hc105 : (hm : Int) ≤ ((i : Nat) : Int) := (Int.not_lt.1 (of_decide_eq_false hc105))
        refine W_exit ?_
        refine X_hit ?_
        refine W_seq ?_
        refine W_seq ?_
        refine W_region (by kernel_rfl) ?_
        refine sg [(13, .bool true)] (by kernel_rfl) ?_
        refine op_nil ?_
        refine W_block ?_
        refine W_loop (fun m ρ w' => ∃ (kn tr : List Bool) (ag : Bool) (ρ0 : Env), ρ = updL ρ0 [(0, .int .i64 ((n : Nat) : Int)), (1, .slice H hm hcp), (2, .slice L k lcp), (6, .pointer (some ⟨w.heap.size, 0, none⟩)), (7, .bool false), (8, .pointer (some ⟨b8, 0, none⟩)), (13, .bool ag)] ∧ (kn.length = n) ∧ (tr.length = n) ∧ (Cons b kn tr) ∧ (∀ x, x ∈ hol → Kn kn x) ∧ (ag = false → ∀ c, c ∈ cs → Settled kn tr c) ∧ Tch N0 w w' ∧ Blk w' (gk) 4 (boolsV kn) ∧ Blk w' (gt) 4 (boolsV tr) ∧ Blk w' (b8) 54 [.slice (some ⟨gk, 0, none⟩) n n, .slice (some ⟨gt, 0, none⟩) n n] ∧ Blk w' (w.heap.size) 54 [.slice none 0 0, .slice none 0 0] ∧ m = 2 * unk kn + (if ag = true then 1 else 0)) (m := 2 * unk kn + (if true = true then 1 else 0)) ?_ ?_
        · refine ⟨kn, tr, true, _, updL_self (by kernel_rfl), l1, l2, hc, (fun x hx => by obtain ⟨j, hj, rfl⟩ := memg hx; exact hh j (by omega)), (fun h => by cases h), hT0, hKn, hTr, hV, hB6, rfl⟩
        · rintro m ρ w135 ⟨kn, tr, ag, ρ, rfl, l1, l2, hc, hh, hse, hT0, hKn, hTr, hV, hB6, rfl⟩
          refine W_seq ?_
          refine W_seq ?_
          refine W_region (by kernel_rfl) ?_
          refine sg [(62, .bool ag)] (by kernel_rfl) ?_
          refine op_nil ?_
          refine W_cond (ag) (by kernel_rfl) (by kernel_rfl) (fun hc136 => ?_) (fun hc136 => ?_)
          · replace hc136 : ag = true := (hc136)
            have hc_ := hc136
            refine W_skip ?_
            refine W_block ?_
            refine W_seq ?_
            refine W_region (by kernel_rfl) ?_
            refine sg [(13, .bool false)] (by kernel_rfl) ?_
            refine op_nil ?_
            refine W_seq ?_
            refine W_region (by kernel_rfl) ?_
            refine sg [(14, .int .i64 0)] (by kernel_rfl) ?_
            refine op_nil ?_
            refine W_block ?_
            refine W_loop (fun m ρ w' => ∃ (kn2 tr2 : List Bool) (ag2 : Bool) (i : Nat) (ρ0 : Env), ρ = updL ρ0 [(0, .int .i64 ((n : Nat) : Int)), (1, .slice H hm hcp), (2, .slice L k lcp), (6, .pointer (some ⟨w.heap.size, 0, none⟩)), (7, .bool false), (8, .pointer (some ⟨b8, 0, none⟩)), (13, .bool ag2), (14, .int .i64 ((i : Nat) : Int))] ∧ (kn2.length = n) ∧ (tr2.length = n) ∧ (Cons b kn2 tr2) ∧ (∀ x, x ∈ hol → Kn kn2 x) ∧ (ag2 = false → kn2 = kn ∧ ∀ j, j < i → Settled kn2 tr2 (cs.getD j [])) ∧ (ag2 = true → unk kn2 < unk kn) ∧ (i ≤ k) ∧ Tch N0 w w' ∧ Blk w' (gk) 4 (boolsV kn2) ∧ Blk w' (gt) 4 (boolsV tr2) ∧ Blk w' (b8) 54 [.slice (some ⟨gk, 0, none⟩) n n, .slice (some ⟨gt, 0, none⟩) n n] ∧ Blk w' (w.heap.size) 54 [.slice none 0 0, .slice none 0 0] ∧ m = k - i) (m := k - 0) ?_ ?_
            · refine ⟨kn, tr, false, 0, _, updL_self (by kernel_rfl), l1, l2, hc, hh, (fun _ => ⟨rfl, fun j hj => by omega⟩), (fun h => by cases h), by omega, hT0, hKn, hTr, hV, hB6, rfl⟩
            · rintro m ρ w137 ⟨kn2, tr2, ag2, i, ρ, rfl, m1, m2, mc, mh, mf, mt, hi, hT0, hKn, hTr, hV, hB6, rfl⟩
              refine W_seq ?_
              refine W_seq ?_
              refine W_region (by kernel_rfl) ?_
              refine sg [(63, .int .i64 ((i : Nat) : Int)), (64, .slice L k lcp), (65, .int .i64 (k : Int)), (66, .bool (decide (((i : Nat) : Int) < (k : Int))))] (by kernel_rfl) ?_
              refine op_nil ?_
              refine W_cond (decide (((i : Nat) : Int) < (k : Int))) (by kernel_rfl) (by kernel_rfl) (fun hc138 => ?_) (fun hc138 => ?_)
              · replace hc138 : ((i : Nat) : Int) < (k : Int) := (of_decide_eq_true hc138)
                refine W_skip ?_
                refine W_seq ?_
                refine W_block ?_
                refine W_seq ?_
                obtain ⟨C, cm, cc, hLi, hCi⟩ := hcl i (by omega)
                have hcf := (hfc _ (cmem (show i < cs.length by omega))).2
                refine W_draw (fun w' => Blk w' (gk) 4 (boolsV kn2) ∧ Blk w' (gt) 4 (boolsV tr2) ∧ Blk w' (b8) 54 [.slice (some ⟨gk, 0, none⟩) n n, .slice (some ⟨gt, 0, none⟩) n n] ∧ Blk w' (w.heap.size) 54 [.slice none 0 0, .slice none 0 0]) (by kernel_rfl) (by kernel_rfl) (by kernel_rfl) fun w139 hT140 hh141 => ?_
                have hT0 := hT0.t0 hT140
                have hKn := hKn.tch0 hT140
                have hTr := hTr.tch0 hT140
                have hV := hV.tch0 hT140
                have hB6 := hB6.tch0 hT140
                refine dtk [1, 2] #[false, true, true, false, false, false, false, false, false, false, false] [(71, .slice L k lcp), (72, .int .i64 ((i : Nat) : Int))] ⟨hKn, hTr, hV, hB6⟩ (by kernel_rfl) ?_
                refine d_val (v := .agg #[.slice (some ⟨gk, 0, none⟩) n n, .slice (some ⟨gt, 0, none⟩) n n]) 0 (by rfl) (by kernel_rfl) (by kernel_rfl) (by kernel_rfl) (fun w' hs => by obtain ⟨hKn, hTr, hV, hB6⟩ := hs; exact R_loadA [.slice (some ⟨gk, 0, none⟩) n n, .slice (some ⟨gt, 0, none⟩) n n] (by kernel_rfl) (by kernel_rfl) (by kernel_rfl) (fun k u hk => by rw [hV.cell]; exact get_part _ 0 _ k u rfl hk)) ⟨hKn, hTr, hV, hB6⟩ ?_
                refine d_val (v := ptrAt L i) 3 (by rfl) (by kernel_rfl) (by kernel_rfl) (by kernel_rfl) (fun w' hs => by obtain ⟨hKn, hTr, hV, hB6⟩ := hs; exact R_indexRd1 (len := k) (cap := lcp) (k := .i64) (i := ((i : Nat) : Int)) (e := 27) i (hL.tch0 hT0) (by kernel_rfl) (by kernel_rfl) (by kernel_rfl) (by kernel_rfl) rfl (by omega)) ⟨hKn, hTr, hV, hB6⟩ ?_
                refine d_one 4 (by kernel_rfl) (by rfl) (by kernel_rfl) (S_val (v := .slice C cm cc) (R_loadRd (v := .slice C cm cc) (hL.tch0 hT0) (by omega) (by kernel_rfl) (by kernel_rfl) (hLi)) ?_)
                refine ⟨⟨hKn, hTr, hV, hB6⟩, ?_⟩
                refine d_one 5 (by kernel_rfl) (by rfl) (by kernel_rfl) (S_call (args := [.agg #[.slice (some ⟨gk, 0, none⟩) n n, .slice (some ⟨gt, 0, none⟩) n n], .slice C cm cc]) (by kernel_rfl) (left_ok n (some ⟨gk, 0, none⟩) (some ⟨gt, 0, none⟩) n n kn2 tr2 C cm cc (cs.getD i []) _ (hKn.rd 1 n (by rw [boolsV_length]; omega) (by omega)) (hTr.rd 1 n (by rw [boolsV_length]; omega) (by omega)) (by omega) (hCi.tch0 hT0) hcf (mc.can (hfc _ (cmem (show i < cs.length by omega))).1)) ?_)
                rintro _ w142 ⟨y144, rfl, hLe, hT143⟩
                have hT0 := hT0.t0 hT143
                have hKn := hKn.tch0 hT143
                have hTr := hTr.tch0 hT143
                have hV := hV.tch0 hT143
                have hB6 := hB6.tch0 hT143
                refine ⟨⟨hKn, hTr, hV, hB6⟩, ?_⟩
                refine dtk [6, 7, 8, 9, 10] #[true, true, true, true, true, true, true, true, true, true, true] [(69, .tuple #[.int .i64 y144, .bool true]), (76, .int .i64 y144), (77, .bool true), (15, .int .i64 y144), (16, .bool true)] ⟨hKn, hTr, hV, hB6⟩ (by kernel_rfl) ?_
                refine d_done (by kernel_rfl) ?_
                refine W_seq ?_
                refine W_seq ?_
                refine W_fg [(0, .int .i64 ((n : Nat) : Int)), (1, .slice H hm hcp), (2, .slice L k lcp), (6, .pointer (some ⟨w.heap.size, 0, none⟩)), (7, .bool false), (8, .pointer (some ⟨b8, 0, none⟩)), (13, .bool ag2), (14, .int .i64 ((i : Nat) : Int)), (15, .int .i64 y144), (16, .bool true), (66, .bool (decide (((i : Nat) : Int) < (k : Int))))] (by kernel_rfl) fun ρ => ?_
                refine W_region (by kernel_rfl) ?_
                refine sg [(78, .bool true), (79, .bool false)] (by kernel_rfl) ?_
                refine op_nil ?_
                refine W_cond false (by kernel_rfl) (by kernel_rfl) (fun h => nomatch h) (fun _ => ?_)
                refine W_skip ?_
                refine W_seq ?_
                refine W_region (by kernel_rfl) ?_
                refine sg [(81, .int .i64 y144), (82, .bool (decide (y144 ≥ 0)))] (by kernel_rfl) ?_
                refine op_nil ?_
                refine W_cond (decide (y144 ≥ 0)) (by kernel_rfl) (by kernel_rfl) (fun hc145 => ?_) (fun hc145 => ?_)
                · replace hc145 : 0 ≤ y144 := (of_decide_eq_true hc145)
                  refine W_seq ?_
                  obtain ⟨x, rfl, hx1, hx2, hx3⟩ := hLe.pos (by omega)
                  have hxn := hcf x hx1
                  refine W_region (by kernel_rfl) ?_
                  refine sg [(83, .pointer (some ⟨b8, 0, none⟩))] (by kernel_rfl) ?_
                  refine st (by rfl) (S_val (v := .slice (some ⟨gk, 0, none⟩) n n) (R_load (v := .slice (some ⟨gk, 0, none⟩) n n) (by kernel_rfl) (by kernel_rfl) ((hV.cell 0).trans rfl)) ?_)
                  refine sg [(85, .int .i64 ((x : Nat) : Int)), (86, .int .i64 (IntKind.i64.wrap (((x : Nat) : Int).tdiv 2)))] (by kernel_rfl) ?_
                  rw [show IntKind.i64.wrap (((x : Nat) : Int).tdiv 2) = ((x : Nat) : Int) / 2 from by rw [Int.tdiv_eq_ediv_of_nonneg (by omega)]; exact wrap_i64 (by omega) (by omega)]
                  refine fixR (y := ((x / 2 : Nat) : Int)) (by omega) ?_
                  refine stv (v := .pointer (some ⟨gk, x / 2, none⟩)) (by rfl) (R_index0 (b := gk) (len := n) (cap := n) (k := .i64) (i := ((x / 2 : Nat) : Int)) (e := 4) (x / 2) (by kernel_rfl) (by kernel_rfl) (by kernel_rfl) (by kernel_rfl) rfl (by first | omega | (simp only [List.length_set, List.length_map]; omega))) ?_
                  refine st (by rfl) (S_store (b := gk) (j := x / 2) (v := .bool true) (by kernel_rfl) (by kernel_rfl) (by kernel_rfl) (by rfl) hKn (by (try rw [List.length_append]); rw [boolsV_length]; first | omega | (simp only [List.length_set, List.length_map]; omega)) fun w146 hT147 hs148 hKn' => ?_)
                  have hT0 := (hT0).then hT147 (fun c e => by have : c = gk := e; omega)
                  have hTr := hTr.tch hT147 (fun e => by have : gt = gk := e; omega)
                  have hV := hV.tch hT147 (hV.ne hKn (by decide))
                  have hB6 := hB6.tch hT147 (hB6.ne hKn (by decide))
                  replace hKn : Blk w146 (gk) 4 (boolsV (kn2.set (x / 2) true)) := by rw [← boolsV_set]; exact hKn'
                  refine op_nil ?_
                  refine W_seq ?_
                  refine W_fg [(0, .int .i64 ((n : Nat) : Int)), (1, .slice H hm hcp), (2, .slice L k lcp), (6, .pointer (some ⟨w.heap.size, 0, none⟩)), (7, .bool false), (8, .pointer (some ⟨b8, 0, none⟩)), (13, .bool ag2), (14, .int .i64 ((i : Nat) : Int)), (15, .int .i64 ((x : Nat) : Int)), (16, .bool true), (66, .bool (decide (((i : Nat) : Int) < (k : Int)))), (79, .bool false), (82, .bool (decide (((x : Nat) : Int) ≥ 0)))] (by kernel_rfl) fun ρ => ?_
                  refine W_draw (fun w' => Blk w' (b8) 54 [.slice (some ⟨gk, 0, none⟩) n n, .slice (some ⟨gt, 0, none⟩) n n]) (by kernel_rfl) (by kernel_rfl) (by kernel_rfl) fun w149 hT150 hh151 => ?_
                  have hT0 := hT0.t0 hT150
                  have hKn := hKn.tch0 hT150
                  have hTr := hTr.tch0 hT150
                  have hV := hV.tch0 hT150
                  have hB6 := hB6.tch0 hT150
                  refine dtk [0, 2, 4] #[true, false, true, false, true, false, false, false, false] [(88, .pointer (some ⟨b8, 1, none⟩)), (90, .int .i64 ((x : Nat) : Int)), (92, .int .i64 ((x : Nat) : Int))] hV (by kernel_rfl) ?_
                  refine d_val (v := .slice (some ⟨gt, 0, none⟩) n n) 1 (by rfl) (by kernel_rfl) (by kernel_rfl) (by kernel_rfl) (fun w' hs => by have hV := hs; exact R_load (v := .slice (some ⟨gt, 0, none⟩) n n) (by kernel_rfl) (by kernel_rfl) ((hV.cell 1).trans rfl)) hV ?_
                  refine dtk [3] #[true, true, true, true, true, false, false, false, false] [(91, .int .i64 (IntKind.i64.wrap (((x : Nat) : Int).tdiv 2)))] hV (by kernel_rfl) ?_
                  rw [show IntKind.i64.wrap (((x : Nat) : Int).tdiv 2) = ((x : Nat) : Int) / 2 from by rw [Int.tdiv_eq_ediv_of_nonneg (by omega)]; exact wrap_i64 (by omega) (by omega)]
                  refine fixD (y := ((x / 2 : Nat) : Int)) (by omega) ?_
                  refine d_one 5 (by kernel_rfl) (by rfl) (by kernel_rfl) (S_call (args := [.int .i64 ((x : Nat) : Int)]) (by kernel_rfl) (rneg_ok x _ (by omega)) ?_)
                  rintro _ w152 ⟨rfl, hT153⟩
                  have hT0 := hT0.t0 hT153
                  have hKn := hKn.tch0 hT153
                  have hTr := hTr.tch0 hT153
                  have hV := hV.tch0 hT153
                  have hB6 := hB6.tch0 hT153
                  refine ⟨hV, ?_⟩
                  refine dtk [6] #[true, true, true, true, true, true, true, false, false] [(94, .bool (!(decide (x % 2 = 1))))] hV (by kernel_rfl) ?_
                  refine d_val (v := .pointer (some ⟨gt, x / 2, none⟩)) 7 (by rfl) (by kernel_rfl) (by kernel_rfl) (by kernel_rfl) (fun w' hs => by have hV := hs; exact R_index0 (b := gt) (len := n) (cap := n) (k := .i64) (i := ((x / 2 : Nat) : Int)) (e := 4) (x / 2) (by kernel_rfl) (by kernel_rfl) (by kernel_rfl) (by kernel_rfl) rfl (by first | omega | (simp only [List.length_set, List.length_map]; omega))) hV ?_
                  refine d_one 8 (by kernel_rfl) (by rfl) (by kernel_rfl) (S_store (b := gt) (j := x / 2) (v := .bool (!(decide (x % 2 = 1)))) (by kernel_rfl) (by kernel_rfl) (by kernel_rfl) (by rfl) hTr (by (try rw [List.length_append]); rw [boolsV_length]; first | omega | (simp only [List.length_set, List.length_map]; omega)) fun w154 hT155 hs156 hTr' => ?_)
                  have hT0 := (hT0).then hT155 (fun c e => by have : c = gt := e; omega)
                  have hKn := hKn.tch hT155 (fun e => by have : gk = gt := e; omega)
                  have hV := hV.tch hT155 (hV.ne hTr (by decide))
                  have hB6 := hB6.tch hT155 (hB6.ne hTr (by decide))
                  replace hTr : Blk w154 (gt) 4 (boolsV (tr2.set (x / 2) (!(decide (x % 2 = 1))))) := by rw [← boolsV_set]; exact hTr'
                  refine ⟨hV, ?_⟩
                  refine d_done (by kernel_rfl) ?_
                  refine W_fg [(0, .int .i64 ((n : Nat) : Int)), (1, .slice H hm hcp), (2, .slice L k lcp), (6, .pointer (some ⟨w.heap.size, 0, none⟩)), (7, .bool false), (8, .pointer (some ⟨b8, 0, none⟩)), (13, .bool ag2), (14, .int .i64 ((i : Nat) : Int)), (15, .int .i64 ((x : Nat) : Int)), (16, .bool true), (66, .bool (decide (((i : Nat) : Int) < (k : Int)))), (79, .bool false), (82, .bool (decide (((x : Nat) : Int) ≥ 0)))] (by kernel_rfl) fun ρ => ?_
                  refine W_region (by kernel_rfl) ?_
                  refine sg [(13, .bool true)] (by kernel_rfl) ?_
                  refine op_nil ?_
                  refine W_region (by kernel_rfl) ?_
                  refine sg [(67, .int .i64 ((i : Nat) : Int)), (68, .int .i64 (IntKind.i64.wrap (((i : Nat) : Int) + 1)))] (by kernel_rfl) ?_
                  rw [show IntKind.i64.wrap (((i : Nat) : Int) + 1) = ((i : Nat) : Int) + 1 from wrap_i64 (by omega) (by omega)]
                  refine sg [(14, .int .i64 (((i : Nat) : Int) + 1))] (by kernel_rfl) ?_
                  refine op_nil ?_
                  refine ⟨_, ?_, kn2.set (x / 2) true, tr2.set (x / 2) (!(decide (x % 2 = 1))), true, i + 1, _, updL_self (by kernel_rfl), ?_, ?_, ?_, ?_, ?_, ?_, ?_, hT0, hKn, hTr, hV, hB6, rfl⟩
                  · omega
                  · rw [List.length_set]; exact m1
                  · rw [List.length_set]; exact m2
                  · exact mc.put (mc.unit (hfc _ (cmem (by omega))).1 hx3) (by omega) (by omega)
                  · exact fun x hx => (mh x hx).set (by omega)
                  · exact fun h => by cases h
                  · exact fun _ => pass_put mf mt (by omega) hx2
                  · omega
                · replace hc145 : y144 < 0 := (Int.not_le.1 (of_decide_eq_false hc145))
                  refine W_skip ?_
                  refine W_region (by kernel_rfl) ?_
                  refine sg [(67, .int .i64 ((i : Nat) : Int)), (68, .int .i64 (IntKind.i64.wrap (((i : Nat) : Int) + 1)))] (by kernel_rfl) ?_
                  rw [show IntKind.i64.wrap (((i : Nat) : Int) + 1) = ((i : Nat) : Int) + 1 from wrap_i64 (by omega) (by omega)]
                  refine sg [(14, .int .i64 (((i : Nat) : Int) + 1))] (by kernel_rfl) ?_
                  refine op_nil ?_
                  refine ⟨_, ?_, kn2, tr2, ag2, i + 1, _, updL_self (by kernel_rfl), m1, m2, mc, mh, ?_, mt, ?_, hT0, hKn, hTr, hV, hB6, rfl⟩
                  · omega
                  · exact fun h => ⟨(mf h).1, settled_put (mf h).2 (hLe.neg (by omega))⟩
                  · omega
              · replace hc138 : (k : Int) ≤ ((i : Nat) : Int) := (Int.not_lt.1 (of_decide_eq_false hc138))
                refine W_exit ?_
                refine X_hit ?_
                refine ⟨_, ?_, kn2, tr2, ag2, _, updL_self (by kernel_rfl), m1, m2, mc, mh, ?_, hT0, hKn, hTr, hV, hB6, rfl⟩
                · exact pass_lt hc_ mf mt
                · exact fun h c hcm => by obtain ⟨j, hj, rfl⟩ := cmemg hcm; exact (mf h).2 j (by omega)
          · replace hc136 : ag = false := (hc136)
            refine W_exit ?_
            refine X_hit ?_
            refine W_seq ?_
            refine W_region (by kernel_rfl) ?_
            refine st (by rfl) (S_val (v := .agg #[.slice (some ⟨gk, 0, none⟩) n n, .slice (some ⟨gt, 0, none⟩) n n]) (R_loadA [.slice (some ⟨gk, 0, none⟩) n n, .slice (some ⟨gt, 0, none⟩) n n] (by kernel_rfl) (by kernel_rfl) (by kernel_rfl) (fun k u hk => by rw [hV.cell]; exact get_part _ 0 _ k u rfl hk)) ?_)
            refine st (by rfl) (S_storeA (b := w.heap.size) (j := 0) (cs := [.slice (some ⟨gk, 0, none⟩) n n, .slice (some ⟨gt, 0, none⟩) n n]) (by kernel_rfl) (by kernel_rfl) (by kernel_rfl) (by simp [oneV]) hB6 (by simp) fun w157 hT158 hs159 hB6' => ?_)
            have hT0 := (hT0).then hT158 (fun c e => by have : c = w.heap.size := e; omega)
            have hKn := hKn.tch hT158 (hKn.ne hB6 (by decide))
            have hTr := hTr.tch hT158 (hTr.ne hB6 (by decide))
            have hV := hV.tch hT158 (fun e => by have : b8 = w.heap.size := e; omega)
            replace hB6 : Blk w157 w.heap.size 54 [.slice (some ⟨gk, 0, none⟩) n n, .slice (some ⟨gt, 0, none⟩) n n] := hB6'
            refine sg [(7, .bool true)] (by kernel_rfl) ?_
            refine op_nil ?_
            refine W_ret ?_
            exact ⟨_, Res_cell1 (b := w.heap.size) (cs := [.slice (some ⟨gk, 0, none⟩) n n, .slice (some ⟨gt, 0, none⟩) n n]) (by rfl) (by kernel_rfl) (by kernel_rfl) (by kernel_rfl) hB6 (by kernel_rfl) (by kernel_rfl), ⟨_, _, _, _, kn, tr, rfl, hKn.rd 1 n (by rw [boolsV_length]; omega) (by omega), hTr.rd 1 n (by rw [boolsV_length]; omega) (by omega), l1, l2, hc, hh, hse (by assumption), hT0⟩⟩

end Go.Proofs.YtnlecdpiccgdpaaV
