/- Texts laid together: Walks of functions of the program and of the document's texts. The conditions stand with each theorem. Walks of functions of the program and of the document's texts. The conditions stand with each theorem. Walks of functions of the program and of the document's texts. The conditions stand with each theorem. -/
import Derived.Test.YtnlecdpiccgdpaaJMmult60x2
import Derived.Test.YtnlecdpiccgdpaaProg
import Derived.Test.YtnlecdpiccgdpaaJMmult60x1
set_option linter.unusedVariables false
set_option linter.unusedSimpArgs false
namespace Go.Proofs.YtnlecdpiccgdpaaV
open Go Go.RowKit Go.Proofs

/-- A row of clauses. -/
def Cls (w : World) (Lv : List Value) (cs : List (List Nat)) : Prop := ∀ i, i < cs.length → ∃ C m cc, Lv[i]? = some (.slice C m cc) ∧ RdW w 1 m C (nats (cs.getD i []))

theorem Kn.set {kn : List Bool} {x v : Nat} (h : Kn kn x) (hv : v < kn.length) : Kn (kn.set v true) x := by
  unfold Kn at *
  rw [setBb _ _ _ _ hv]
  split
  · rfl
  · exact h
theorem Kn_put {kn : List Bool} {hol : List Nat} {i : Nat} (h : ∀ j, j < i → Kn kn (hol.getD j 0)) (hv : hol.getD i 0 / 2 < kn.length) : ∀ j, j < i + 1 → Kn (kn.set (hol.getD i 0 / 2) true) (hol.getD j 0) := fun j hj => by
  by_cases e : j = i
  · subst e
    unfold Kn
    rw [setBb _ _ _ _ hv, if_pos rfl]
  · exact (h j (by omega)).set hv
theorem cmem {cs : List (List Nat)} {i : Nat} (h : i < cs.length) : cs.getD i [] ∈ cs := by
  rw [List.getD_eq_getElem?_getD, List.getElem?_eq_getElem h]; exact List.getElem_mem h
theorem cmemg {cs : List (List Nat)} {c : List Nat} (h : c ∈ cs) : ∃ j, j < cs.length ∧ cs.getD j [] = c := by
  obtain ⟨j, hj, e⟩ := List.getElem_of_mem h
  exact ⟨j, hj, by rw [List.getD_eq_getElem?_getD, List.getElem?_eq_getElem hj]; exact e⟩
theorem settled_put {kn tr : List Bool} {cs : List (List Nat)} {i : Nat} (h : ∀ j, j < i → Settled kn tr (cs.getD j [])) (hi : Settled kn tr (cs.getD i [])) : ∀ j, j < i + 1 → Settled kn tr (cs.getD j []) := fun j hj => by
  by_cases e : j = i
  · subst e; exact hi
  · exact h j (by omega)
theorem LeftR.neg {kn tr : List Bool} {c : List Nat} {y : Int} (h : LeftR kn tr c y) (hy : y < 0) : Settled kn tr c := by
  rcases h with ⟨_, h⟩ | ⟨x, rfl, _⟩
  · exact h
  · omega
theorem LeftR.pos {kn tr : List Bool} {c : List Nat} {y : Int} (h : LeftR kn tr c y) (hy : 0 ≤ y) : ∃ x : Nat, y = x ∧ x ∈ c ∧ ¬ Kn kn x ∧ ∀ z, z ∈ c → z ≠ x → Kn kn z ∧ hIs kn tr z = false := by
  rcases h with ⟨h, _⟩ | h
  · omega
  · exact h
theorem pass_put {kn kn2 : List Bool} {ag2 : Bool} {x : Nat} {Q : Prop} (mf : ag2 = false → kn2 = kn ∧ Q) (mt : ag2 = true → unk kn2 < unk kn) (hl : x / 2 < kn2.length) (hx : ¬ Kn kn2 x) : unk (kn2.set (x / 2) true) < unk kn := by
  have h := unk_put hl (by unfold Kn at hx; simpa using hx)
  cases ag2 with
  | false => rw [(mf rfl).1] at h ⊢; omega
  | true => have := mt rfl; omega
theorem pass_lt {kn kn2 : List Bool} {ag ag2 : Bool} {Q : Prop} (ha : ag = true) (mf : ag2 = false → kn2 = kn ∧ Q) (mt : ag2 = true → unk kn2 < unk kn) : 2 * unk kn2 + (if ag2 = true then 1 else 0) < 2 * unk kn + (if ag = true then 1 else 0) := by
  rw [if_pos ha]
  cases ag2 with
  | false => rw [(mf rfl).1]; simp
  | true => have := mt rfl; simp; omega

set_option maxRecDepth 100000 in
theorem run_ok (n hm hcp k lcp : Nat) (H L : Option Addr) (hol : List Nat) (Lv : List Value) (cs : List (List Nat)) (b : Nat → Bool) (w : World) (hH : RdW w 1 hm H (nats hol)) (hL : RdW w 1 k L Lv) (hcl : Cls w Lv cs) (hk : cs.length = k) (hn : n ≤ 35184372088832) (hfh : ∀ x, x ∈ hol → x / 2 < n ∧ lt_ b x = true) (hfc : ∀ c, c ∈ cs → True_ b c ∧ ∀ x, x ∈ c → x / 2 < n) : Ret Try.prog 49 [.int .i64 ((n : Nat) : Int), .slice H hm hcp, .slice L k lcp] w fun v w' => ∃ K J ck cj kn tr, v = .tuple #[.agg #[.slice K n ck, .slice J n cj], .bool true] ∧ RdW w' 1 n K (boolsV kn) ∧ RdW w' 1 n J (boolsV tr) ∧ kn.length = n ∧ tr.length = n ∧ Cons b kn tr ∧ (∀ x, x ∈ hol → Kn kn x) ∧ (∀ c, c ∈ cs → Settled kn tr c) ∧ Tch N0 w w' := by
  have hm63 := hH.2.1
  have hk63 := hL.2.1
  have lh : hol.length = hm := by have := hH.1; rw [nats_length] at this; omega
  refine enter Try.func49 rfl rfl ?_
  refine W_seq ?_
  refine W_region (by kernel_rfl) ?_
  refine st (by rfl) (S_new (v := .pointer (some ⟨w.heap.size, 0, none⟩)) (ob := .cells #[.slice none 0 0, .slice none 0 0] 54) (by kernel_rfl) fun w1 hT2 hs3 hB4 => ?_)
  replace hB4 : Blk w1 (w.heap.size) 54 [.slice none 0 0, .slice none 0 0] := hB4
  have hT0 := hT2
  refine sg [(7, .bool false)] (by kernel_rfl) ?_
  refine op_nil ?_
  refine W_seq ?_
  refine W_rcut (C := fun ρ' w' => ∃ (gk gt b8 : Nat) (ρ0 : Env), ρ' = updL ρ0 [(0, .int .i64 ((n : Nat) : Int)), (1, .slice H hm hcp), (2, .slice L k lcp), (6, .pointer (some ⟨w.heap.size, 0, none⟩)), (7, .bool false), (8, .pointer (some ⟨b8, 0, none⟩))] ∧ Blk w' (gk) 4 (boolsV (List.replicate n false)) ∧ Blk w' (gt) 4 (boolsV (List.replicate n false)) ∧ Blk w' (b8) 54 [.slice (some ⟨gk, 0, none⟩) n n, .slice (some ⟨gt, 0, none⟩) n n] ∧ Blk w' (w.heap.size) 54 [.slice none 0 0, .slice none 0 0] ∧ gk ≠ gt ∧ w.heap.size < b8 ∧ w.heap.size ≤ gk ∧ w.heap.size ≤ gt ∧ Tch N0 w w') ?_ ?_
  · refine W_draw (fun w' => True) (by kernel_rfl) (by kernel_rfl) (by kernel_rfl) fun w5 hT6 hh7 => ?_
    have hT0 := hT0.t0 hT6
    have hB4 := hB4.tch0 hT6
    refine dtk [0, 2] #[true, false, true, false, false, false, false] [(17, .int .i64 ((n : Nat) : Int)), (19, .int .i64 ((n : Nat) : Int))] trivial (by kernel_rfl) ?_
    refine d_three 1 3 5 (by kernel_rfl) (by rfl) (by rfl) (by rfl) (by kernel_rfl) (by kernel_rfl) (by kernel_rfl) ?_ ?_ ?_
    · refine (S_make 23 4 (.bool false) 1 1 (k1 := .i64) (k2 := .i64) (l := ((n : Nat) : Int)) (c := ((n : Nat) : Int)) (by kernel_rfl) (by kernel_rfl) (by kernel_rfl) (by kernel_rfl) (by omega) (by omega) (by omega) (by omega) fun w8 hT9 hs10 hB11 => ?_)
      have hT0 := hT0.t0 hT9
      have hB4 := hB4.tch0 hT9
      rw [madeOne _ rfl] at hB11
      rw [Nat.mul_one] at hB11
      replace hB11 : Blk w8 (w5.heap.size) 4 (boolsV (List.replicate n false)) := by simpa [ints, boolsV] using hB11
      refine ⟨trivial, ?_⟩
      refine d_two 3 5 (by kernel_rfl) (by rfl) (by rfl) (by kernel_rfl) (by kernel_rfl) ?_ ?_
      · refine (S_make 23 4 (.bool false) 1 1 (k1 := .i64) (k2 := .i64) (l := ((n : Nat) : Int)) (c := ((n : Nat) : Int)) (by kernel_rfl) (by kernel_rfl) (by kernel_rfl) (by kernel_rfl) (by omega) (by omega) (by omega) (by omega) fun w12 hT13 hs14 hB15 => ?_)
        have hT0 := hT0.t0 hT13
        have hB4 := hB4.tch0 hT13
        have hB11 := hB11.tch0 hT13
        rw [madeOne _ rfl] at hB15
        rw [Nat.mul_one] at hB15
        replace hB15 : Blk w12 (w8.heap.size) 4 (boolsV (List.replicate n false)) := by simpa [ints, boolsV] using hB15
        refine ⟨trivial, ?_⟩
        refine dtk [4] #[true, true, true, true, true, false, false] [(21, .agg #[.slice (some ⟨w5.heap.size, 0, none⟩) n n, .slice (some ⟨w8.heap.size, 0, none⟩) n n])] trivial (by kernel_rfl) ?_
        have z20 := hT0.size
        have l21 := hB4.lt
        have l22 := hB11.lt
        have l23 := hB15.lt
        refine d_one 5 (by kernel_rfl) (by rfl) (by kernel_rfl) (S_new (v := .pointer (some ⟨w12.heap.size, 0, none⟩)) (ob := .cells #[.slice none 0 0, .slice none 0 0] 54) (by kernel_rfl) fun w16 hT17 hs18 hB19 => ?_)
        replace hB19 : Blk w16 (w12.heap.size) 54 [.slice none 0 0, .slice none 0 0] := hB19
        have hT0 := hT0.t0 hT17
        have hB4 := hB4.tch0 hT17
        have hB11 := hB11.tch0 hT17
        have hB15 := hB15.tch0 hT17
        refine ⟨trivial, ?_⟩
        refine d_one 6 (by kernel_rfl) (by rfl) (by kernel_rfl) (S_storeA (b := w12.heap.size) (j := 0) (cs := [.slice (some ⟨w5.heap.size, 0, none⟩) n n, .slice (some ⟨w8.heap.size, 0, none⟩) n n]) (by kernel_rfl) (by kernel_rfl) (by kernel_rfl) (by simp [oneV]) hB19 (by simp) fun w24 hT25 hs26 hB19' => ?_)
        have hT0 := (hT0).then hT25 (fun c e => by have : c = w12.heap.size := e; omega)
        have hB4 := hB4.tch hT25 (fun e => by have : w.heap.size = w12.heap.size := e; omega)
        have hB11 := hB11.tch hT25 (hB11.ne hB19 (by decide))
        have hB15 := hB15.tch hT25 (hB15.ne hB19 (by decide))
        replace hB19 : Blk w24 w12.heap.size 54 [.slice (some ⟨w5.heap.size, 0, none⟩) n n, .slice (some ⟨w8.heap.size, 0, none⟩) n n] := hB19'
        refine ⟨trivial, ?_⟩
        refine d_done (by kernel_rfl) ?_
        have := (hT2).size
        have := (hT6).size
        have := (hT9).size
        have := (hT13).size
        have := (hT17).size
        have := (hT25).size
        exact ⟨w5.heap.size, w8.heap.size, w12.heap.size, _, updL_self (by kernel_rfl), hB11, hB15, hB19, hB4, (by omega), (by omega), (by omega), (by omega), hT0⟩
      · have z31 := hT0.size
        have l32 := hB4.lt
        have l33 := hB11.lt
        refine (S_new (v := .pointer (some ⟨w8.heap.size, 0, none⟩)) (ob := .cells #[.slice none 0 0, .slice none 0 0] 54) (by kernel_rfl) fun w27 hT28 hs29 hB30 => ?_)
        replace hB30 : Blk w27 (w8.heap.size) 54 [.slice none 0 0, .slice none 0 0] := hB30
        have hT0 := hT0.t0 hT28
        have hB4 := hB4.tch0 hT28
        have hB11 := hB11.tch0 hT28
        refine ⟨trivial, ?_⟩
        refine d_one 3 (by kernel_rfl) (by rfl) (by kernel_rfl) (S_make 23 4 (.bool false) 1 1 (k1 := .i64) (k2 := .i64) (l := ((n : Nat) : Int)) (c := ((n : Nat) : Int)) (by kernel_rfl) (by kernel_rfl) (by kernel_rfl) (by kernel_rfl) (by omega) (by omega) (by omega) (by omega) fun w34 hT35 hs36 hB37 => ?_)
        have hT0 := hT0.t0 hT35
        have hB4 := hB4.tch0 hT35
        have hB11 := hB11.tch0 hT35
        have hB30 := hB30.tch0 hT35
        rw [madeOne _ rfl] at hB37
        rw [Nat.mul_one] at hB37
        replace hB37 : Blk w34 (w27.heap.size) 4 (boolsV (List.replicate n false)) := by simpa [ints, boolsV] using hB37
        refine ⟨trivial, ?_⟩
        refine dtk [4] #[true, true, true, true, true, true, false] [(21, .agg #[.slice (some ⟨w5.heap.size, 0, none⟩) n n, .slice (some ⟨w27.heap.size, 0, none⟩) n n])] trivial (by kernel_rfl) ?_
        refine d_one 6 (by kernel_rfl) (by rfl) (by kernel_rfl) (S_storeA (b := w8.heap.size) (j := 0) (cs := [.slice (some ⟨w5.heap.size, 0, none⟩) n n, .slice (some ⟨w27.heap.size, 0, none⟩) n n]) (by kernel_rfl) (by kernel_rfl) (by kernel_rfl) (by simp [oneV]) hB30 (by simp) fun w38 hT39 hs40 hB30' => ?_)
        have hT0 := (hT0).then hT39 (fun c e => by have : c = w8.heap.size := e; omega)
        have hB4 := hB4.tch hT39 (fun e => by have : w.heap.size = w8.heap.size := e; omega)
        have hB11 := hB11.tch hT39 (hB11.ne hB30 (by decide))
        have hB37 := hB37.tch hT39 (hB37.ne hB30 (by decide))
        replace hB30 : Blk w38 w8.heap.size 54 [.slice (some ⟨w5.heap.size, 0, none⟩) n n, .slice (some ⟨w27.heap.size, 0, none⟩) n n] := hB30'
        refine ⟨trivial, ?_⟩
        refine d_done (by kernel_rfl) ?_
        have := (hT2).size
        have := (hT6).size
        have := (hT9).size
        have := (hT28).size
        have := (hT35).size
        have := (hT39).size
        exact ⟨w5.heap.size, w27.heap.size, w8.heap.size, _, updL_self (by kernel_rfl), hB11, hB37, hB30, hB4, (by omega), (by omega), (by omega), (by omega), hT0⟩
    · refine (S_make 23 4 (.bool false) 1 1 (k1 := .i64) (k2 := .i64) (l := ((n : Nat) : Int)) (c := ((n : Nat) : Int)) (by kernel_rfl) (by kernel_rfl) (by kernel_rfl) (by kernel_rfl) (by omega) (by omega) (by omega) (by omega) fun w41 hT42 hs43 hB44 => ?_)
      have hT0 := hT0.t0 hT42
      have hB4 := hB4.tch0 hT42
      rw [madeOne _ rfl] at hB44
      rw [Nat.mul_one] at hB44
      replace hB44 : Blk w41 (w5.heap.size) 4 (boolsV (List.replicate n false)) := by simpa [ints, boolsV] using hB44
      refine ⟨trivial, ?_⟩
      refine d_two 1 5 (by kernel_rfl) (by rfl) (by rfl) (by kernel_rfl) (by kernel_rfl) ?_ ?_
      · refine (S_make 23 4 (.bool false) 1 1 (k1 := .i64) (k2 := .i64) (l := ((n : Nat) : Int)) (c := ((n : Nat) : Int)) (by kernel_rfl) (by kernel_rfl) (by kernel_rfl) (by kernel_rfl) (by omega) (by omega) (by omega) (by omega) fun w45 hT46 hs47 hB48 => ?_)
        have hT0 := hT0.t0 hT46
        have hB4 := hB4.tch0 hT46
        have hB44 := hB44.tch0 hT46
        rw [madeOne _ rfl] at hB48
        rw [Nat.mul_one] at hB48
        replace hB48 : Blk w45 (w41.heap.size) 4 (boolsV (List.replicate n false)) := by simpa [ints, boolsV] using hB48
        refine ⟨trivial, ?_⟩
        refine dtk [4] #[true, true, true, true, true, false, false] [(21, .agg #[.slice (some ⟨w41.heap.size, 0, none⟩) n n, .slice (some ⟨w5.heap.size, 0, none⟩) n n])] trivial (by kernel_rfl) ?_
        have z53 := hT0.size
        have l54 := hB4.lt
        have l55 := hB44.lt
        have l56 := hB48.lt
        refine d_one 5 (by kernel_rfl) (by rfl) (by kernel_rfl) (S_new (v := .pointer (some ⟨w45.heap.size, 0, none⟩)) (ob := .cells #[.slice none 0 0, .slice none 0 0] 54) (by kernel_rfl) fun w49 hT50 hs51 hB52 => ?_)
        replace hB52 : Blk w49 (w45.heap.size) 54 [.slice none 0 0, .slice none 0 0] := hB52
        have hT0 := hT0.t0 hT50
        have hB4 := hB4.tch0 hT50
        have hB44 := hB44.tch0 hT50
        have hB48 := hB48.tch0 hT50
        refine ⟨trivial, ?_⟩
        refine d_one 6 (by kernel_rfl) (by rfl) (by kernel_rfl) (S_storeA (b := w45.heap.size) (j := 0) (cs := [.slice (some ⟨w41.heap.size, 0, none⟩) n n, .slice (some ⟨w5.heap.size, 0, none⟩) n n]) (by kernel_rfl) (by kernel_rfl) (by kernel_rfl) (by simp [oneV]) hB52 (by simp) fun w57 hT58 hs59 hB52' => ?_)
        have hT0 := (hT0).then hT58 (fun c e => by have : c = w45.heap.size := e; omega)
        have hB4 := hB4.tch hT58 (fun e => by have : w.heap.size = w45.heap.size := e; omega)
        have hB44 := hB44.tch hT58 (hB44.ne hB52 (by decide))
        have hB48 := hB48.tch hT58 (hB48.ne hB52 (by decide))
        replace hB52 : Blk w57 w45.heap.size 54 [.slice (some ⟨w41.heap.size, 0, none⟩) n n, .slice (some ⟨w5.heap.size, 0, none⟩) n n] := hB52'
        refine ⟨trivial, ?_⟩
        refine d_done (by kernel_rfl) ?_
        have := (hT2).size
        have := (hT6).size
        have := (hT42).size
        have := (hT46).size
        have := (hT50).size
        have := (hT58).size
        exact ⟨w41.heap.size, w5.heap.size, w45.heap.size, _, updL_self (by kernel_rfl), hB48, hB44, hB52, hB4, (by omega), (by omega), (by omega), (by omega), hT0⟩
      · have z64 := hT0.size
        have l65 := hB4.lt
        have l66 := hB44.lt
        refine (S_new (v := .pointer (some ⟨w41.heap.size, 0, none⟩)) (ob := .cells #[.slice none 0 0, .slice none 0 0] 54) (by kernel_rfl) fun w60 hT61 hs62 hB63 => ?_)
        replace hB63 : Blk w60 (w41.heap.size) 54 [.slice none 0 0, .slice none 0 0] := hB63
        have hT0 := hT0.t0 hT61
        have hB4 := hB4.tch0 hT61
        have hB44 := hB44.tch0 hT61
        refine ⟨trivial, ?_⟩
        refine d_one 1 (by kernel_rfl) (by rfl) (by kernel_rfl) (S_make 23 4 (.bool false) 1 1 (k1 := .i64) (k2 := .i64) (l := ((n : Nat) : Int)) (c := ((n : Nat) : Int)) (by kernel_rfl) (by kernel_rfl) (by kernel_rfl) (by kernel_rfl) (by omega) (by omega) (by omega) (by omega) fun w67 hT68 hs69 hB70 => ?_)
        have hT0 := hT0.t0 hT68
        have hB4 := hB4.tch0 hT68
        have hB44 := hB44.tch0 hT68
        have hB63 := hB63.tch0 hT68
        rw [madeOne _ rfl] at hB70
        rw [Nat.mul_one] at hB70
        replace hB70 : Blk w67 (w60.heap.size) 4 (boolsV (List.replicate n false)) := by simpa [ints, boolsV] using hB70
        refine ⟨trivial, ?_⟩
        refine dtk [4] #[true, true, true, true, true, true, false] [(21, .agg #[.slice (some ⟨w60.heap.size, 0, none⟩) n n, .slice (some ⟨w5.heap.size, 0, none⟩) n n])] trivial (by kernel_rfl) ?_
        refine d_one 6 (by kernel_rfl) (by rfl) (by kernel_rfl) (S_storeA (b := w41.heap.size) (j := 0) (cs := [.slice (some ⟨w60.heap.size, 0, none⟩) n n, .slice (some ⟨w5.heap.size, 0, none⟩) n n]) (by kernel_rfl) (by kernel_rfl) (by kernel_rfl) (by simp [oneV]) hB63 (by simp) fun w71 hT72 hs73 hB63' => ?_)
        have hT0 := (hT0).then hT72 (fun c e => by have : c = w41.heap.size := e; omega)
        have hB4 := hB4.tch hT72 (fun e => by have : w.heap.size = w41.heap.size := e; omega)
        have hB44 := hB44.tch hT72 (hB44.ne hB63 (by decide))
        have hB70 := hB70.tch hT72 (hB70.ne hB63 (by decide))
        replace hB63 : Blk w71 w41.heap.size 54 [.slice (some ⟨w60.heap.size, 0, none⟩) n n, .slice (some ⟨w5.heap.size, 0, none⟩) n n] := hB63'
        refine ⟨trivial, ?_⟩
        refine d_done (by kernel_rfl) ?_
        have := (hT2).size
        have := (hT6).size
        have := (hT42).size
        have := (hT61).size
        have := (hT68).size
        have := (hT72).size
        exact ⟨w60.heap.size, w5.heap.size, w41.heap.size, _, updL_self (by kernel_rfl), hB70, hB44, hB63, hB4, (by omega), (by omega), (by omega), (by omega), hT0⟩
    · have z78 := hT0.size
      have l79 := hB4.lt
      refine (S_new (v := .pointer (some ⟨w5.heap.size, 0, none⟩)) (ob := .cells #[.slice none 0 0, .slice none 0 0] 54) (by kernel_rfl) fun w74 hT75 hs76 hB77 => ?_)
      replace hB77 : Blk w74 (w5.heap.size) 54 [.slice none 0 0, .slice none 0 0] := hB77
      have hT0 := hT0.t0 hT75
      have hB4 := hB4.tch0 hT75
      refine ⟨trivial, ?_⟩
      refine d_two 1 3 (by kernel_rfl) (by rfl) (by rfl) (by kernel_rfl) (by kernel_rfl) ?_ ?_
      · refine (S_make 23 4 (.bool false) 1 1 (k1 := .i64) (k2 := .i64) (l := ((n : Nat) : Int)) (c := ((n : Nat) : Int)) (by kernel_rfl) (by kernel_rfl) (by kernel_rfl) (by kernel_rfl) (by omega) (by omega) (by omega) (by omega) fun w80 hT81 hs82 hB83 => ?_)
        have hT0 := hT0.t0 hT81
        have hB4 := hB4.tch0 hT81
        have hB77 := hB77.tch0 hT81
        rw [madeOne _ rfl] at hB83
        rw [Nat.mul_one] at hB83
        replace hB83 : Blk w80 (w74.heap.size) 4 (boolsV (List.replicate n false)) := by simpa [ints, boolsV] using hB83
        refine ⟨trivial, ?_⟩
        refine d_one 3 (by kernel_rfl) (by rfl) (by kernel_rfl) (S_make 23 4 (.bool false) 1 1 (k1 := .i64) (k2 := .i64) (l := ((n : Nat) : Int)) (c := ((n : Nat) : Int)) (by kernel_rfl) (by kernel_rfl) (by kernel_rfl) (by kernel_rfl) (by omega) (by omega) (by omega) (by omega) fun w84 hT85 hs86 hB87 => ?_)
        have hT0 := hT0.t0 hT85
        have hB4 := hB4.tch0 hT85
        have hB77 := hB77.tch0 hT85
        have hB83 := hB83.tch0 hT85
        rw [madeOne _ rfl] at hB87
        rw [Nat.mul_one] at hB87
        replace hB87 : Blk w84 (w80.heap.size) 4 (boolsV (List.replicate n false)) := by simpa [ints, boolsV] using hB87
        refine ⟨trivial, ?_⟩
        refine dtk [4] #[true, true, true, true, true, true, false] [(21, .agg #[.slice (some ⟨w74.heap.size, 0, none⟩) n n, .slice (some ⟨w80.heap.size, 0, none⟩) n n])] trivial (by kernel_rfl) ?_
        refine d_one 6 (by kernel_rfl) (by rfl) (by kernel_rfl) (S_storeA (b := w5.heap.size) (j := 0) (cs := [.slice (some ⟨w74.heap.size, 0, none⟩) n n, .slice (some ⟨w80.heap.size, 0, none⟩) n n]) (by kernel_rfl) (by kernel_rfl) (by kernel_rfl) (by simp [oneV]) hB77 (by simp) fun w88 hT89 hs90 hB77' => ?_)
        have hT0 := (hT0).then hT89 (fun c e => by have : c = w5.heap.size := e; omega)
        have hB4 := hB4.tch hT89 (fun e => by have : w.heap.size = w5.heap.size := e; omega)
        have hB83 := hB83.tch hT89 (hB83.ne hB77 (by decide))
        have hB87 := hB87.tch hT89 (hB87.ne hB77 (by decide))
        replace hB77 : Blk w88 w5.heap.size 54 [.slice (some ⟨w74.heap.size, 0, none⟩) n n, .slice (some ⟨w80.heap.size, 0, none⟩) n n] := hB77'
        refine ⟨trivial, ?_⟩
        refine d_done (by kernel_rfl) ?_
        have := (hT2).size
        have := (hT6).size
        have := (hT75).size
        have := (hT81).size
        have := (hT85).size
        have := (hT89).size
        exact ⟨w74.heap.size, w80.heap.size, w5.heap.size, _, updL_self (by kernel_rfl), hB83, hB87, hB77, hB4, (by omega), (by omega), (by omega), (by omega), hT0⟩
      · refine (S_make 23 4 (.bool false) 1 1 (k1 := .i64) (k2 := .i64) (l := ((n : Nat) : Int)) (c := ((n : Nat) : Int)) (by kernel_rfl) (by kernel_rfl) (by kernel_rfl) (by kernel_rfl) (by omega) (by omega) (by omega) (by omega) fun w91 hT92 hs93 hB94 => ?_)
        have hT0 := hT0.t0 hT92
        have hB4 := hB4.tch0 hT92
        have hB77 := hB77.tch0 hT92
        rw [madeOne _ rfl] at hB94
        rw [Nat.mul_one] at hB94
        replace hB94 : Blk w91 (w74.heap.size) 4 (boolsV (List.replicate n false)) := by simpa [ints, boolsV] using hB94
        refine ⟨trivial, ?_⟩
        refine d_one 1 (by kernel_rfl) (by rfl) (by kernel_rfl) (S_make 23 4 (.bool false) 1 1 (k1 := .i64) (k2 := .i64) (l := ((n : Nat) : Int)) (c := ((n : Nat) : Int)) (by kernel_rfl) (by kernel_rfl) (by kernel_rfl) (by kernel_rfl) (by omega) (by omega) (by omega) (by omega) fun w95 hT96 hs97 hB98 => ?_)
        have hT0 := hT0.t0 hT96
        have hB4 := hB4.tch0 hT96
        have hB77 := hB77.tch0 hT96
        have hB94 := hB94.tch0 hT96
        rw [madeOne _ rfl] at hB98
        rw [Nat.mul_one] at hB98
        replace hB98 : Blk w95 (w91.heap.size) 4 (boolsV (List.replicate n false)) := by simpa [ints, boolsV] using hB98
        refine ⟨trivial, ?_⟩
        refine dtk [4] #[true, true, true, true, true, true, false] [(21, .agg #[.slice (some ⟨w91.heap.size, 0, none⟩) n n, .slice (some ⟨w74.heap.size, 0, none⟩) n n])] trivial (by kernel_rfl) ?_
        refine d_one 6 (by kernel_rfl) (by rfl) (by kernel_rfl) (S_storeA (b := w5.heap.size) (j := 0) (cs := [.slice (some ⟨w91.heap.size, 0, none⟩) n n, .slice (some ⟨w74.heap.size, 0, none⟩) n n]) (by kernel_rfl) (by kernel_rfl) (by kernel_rfl) (by simp [oneV]) hB77 (by simp) fun w99 hT100 hs101 hB77' => ?_)
        have hT0 := (hT0).then hT100 (fun c e => by have : c = w5.heap.size := e; omega)
        have hB4 := hB4.tch hT100 (fun e => by have : w.heap.size = w5.heap.size := e; omega)
        have hB94 := hB94.tch hT100 (hB94.ne hB77 (by decide))
        have hB98 := hB98.tch hT100 (hB98.ne hB77 (by decide))
        replace hB77 : Blk w99 w5.heap.size 54 [.slice (some ⟨w91.heap.size, 0, none⟩) n n, .slice (some ⟨w74.heap.size, 0, none⟩) n n] := hB77'
        refine ⟨trivial, ?_⟩
        refine d_done (by kernel_rfl) ?_
        have := (hT2).size
        have := (hT6).size
        have := (hT75).size
        have := (hT92).size
        have := (hT96).size
        have := (hT100).size
        exact ⟨w91.heap.size, w74.heap.size, w5.heap.size, _, updL_self (by kernel_rfl), hB98, hB94, hB77, hB4, (by omega), (by omega), (by omega), (by omega), hT0⟩
  · rintro _ w102 ⟨gk, gt, b8, ρ, rfl, hKn, hTr, hV, hB6, nkt, z1, z2, z3, hT0⟩
    refine W_seq ?_
    refine W_seq ?_
    refine W_region (by kernel_rfl) ?_
    refine sg [(9, .int .i64 0)] (by kernel_rfl) ?_
    refine op_nil ?_
    refine W_block ?_
    refine W_loop (fun m ρ w' => ∃ (kn tr : List Bool) (i : Nat) (ρ0 : Env), ρ = updL ρ0 [(0, .int .i64 ((n : Nat) : Int)), (1, .slice H hm hcp), (2, .slice L k lcp), (6, .pointer (some ⟨w.heap.size, 0, none⟩)), (7, .bool false), (8, .pointer (some ⟨b8, 0, none⟩)), (9, .int .i64 ((i : Nat) : Int))] ∧ (kn.length = n) ∧ (tr.length = n) ∧ (Cons b kn tr) ∧ (∀ j, j < i → Kn kn (hol.getD j 0)) ∧ (i ≤ hm) ∧ Tch N0 w w' ∧ Blk w' (gk) 4 (boolsV kn) ∧ Blk w' (gt) 4 (boolsV tr) ∧ Blk w' (b8) 54 [.slice (some ⟨gk, 0, none⟩) n n, .slice (some ⟨gt, 0, none⟩) n n] ∧ Blk w' (w.heap.size) 54 [.slice none 0 0, .slice none 0 0] ∧ m = hm - i) (m := hm - 0) ?_ ?_
    · refine ⟨List.replicate n false, List.replicate n false, 0, _, updL_self (by kernel_rfl), by simp, by simp, Cons.zero _ _ _, by intro j h; omega, by omega, hT0, hKn, hTr, hV, hB6, rfl⟩
    · rintro m ρ w104 ⟨kn, tr, i, ρ, rfl, l1, l2, hc, hh, hi, hT0, hKn, hTr, hV, hB6, rfl⟩
      have hfi : i < hm → hol.getD i 0 / 2 < n := fun h => (hfh _ (gmem (by omega))).1
      have hfl : i < hm → lt_ b (hol.getD i 0) = true := fun h => (hfh _ (gmem (by omega))).2
      refine W_seq ?_
      refine W_seq ?_
      refine W_region (by kernel_rfl) ?_
      refine sg [(22, .int .i64 ((i : Nat) : Int)), (23, .slice H hm hcp), (24, .int .i64 (hm : Int)), (25, .bool (decide (((i : Nat) : Int) < (hm : Int))))] (by kernel_rfl) ?_
      refine op_nil ?_
      refine W_cond (decide (((i : Nat) : Int) < (hm : Int))) (by kernel_rfl) (by kernel_rfl) (fun hc105 => ?_) (fun hc105 => ?_)
      · replace hc105 : ((i : Nat) : Int) < (hm : Int) := (of_decide_eq_true hc105)
        refine W_skip ?_
        refine W_seq ?_
        refine W_block ?_
        refine W_seq ?_
        refine W_region (by kernel_rfl) ?_
        refine sg [(28, .slice H hm hcp), (29, .int .i64 ((i : Nat) : Int))] (by kernel_rfl) ?_
        refine stv (v := ptrAt H i) (by rfl) (R_indexRd1 (len := hm) (cap := hcp) (k := .i64) (i := ((i : Nat) : Int)) (e := 3) i (hH.tch0 hT0) (by kernel_rfl) (by kernel_rfl) (by kernel_rfl) (by kernel_rfl) rfl (by omega)) ?_
        refine stv (v := .int .i64 ((hol.getD i 0 : Nat) : Int)) (by rfl) (R_loadRd (v := .int .i64 ((hol.getD i 0 : Nat) : Int)) (hH.tch0 hT0) (by omega) (by kernel_rfl) (by kernel_rfl) (nats_at (l := hol) (by omega))) ?_
        refine sg [(10, .int .i64 ((hol.getD i 0 : Nat) : Int))] (by kernel_rfl) ?_
        refine op_nil ?_
        refine W_seq ?_
        refine W_seq ?_
        refine W_fg [(0, .int .i64 ((n : Nat) : Int)), (1, .slice H hm hcp), (2, .slice L k lcp), (6, .pointer (some ⟨w.heap.size, 0, none⟩)), (7, .bool false), (8, .pointer (some ⟨b8, 0, none⟩)), (9, .int .i64 ((i : Nat) : Int)), (10, .int .i64 ((hol.getD i 0 : Nat) : Int)), (25, .bool (decide (((i : Nat) : Int) < (hm : Int))))] (by kernel_rfl) fun ρ => ?_
        refine W_region (by kernel_rfl) ?_
        refine st (by rfl) (S_val (v := .agg #[.slice (some ⟨gk, 0, none⟩) n n, .slice (some ⟨gt, 0, none⟩) n n]) (R_loadA [.slice (some ⟨gk, 0, none⟩) n n, .slice (some ⟨gt, 0, none⟩) n n] (by kernel_rfl) (by kernel_rfl) (by kernel_rfl) (fun k u hk => by rw [hV.cell]; exact get_part _ 0 _ k u rfl hk)) ?_)
        refine sg [(33, .int .i64 ((hol.getD i 0 : Nat) : Int))] (by kernel_rfl) ?_
        refine st (by rfl) (S_call (args := [.agg #[.slice (some ⟨gk, 0, none⟩) n n, .slice (some ⟨gt, 0, none⟩) n n], .int .i64 ((hol.getD i 0 : Nat) : Int)]) (by kernel_rfl) (fits_ok n (some ⟨gk, 0, none⟩) n (.slice (some ⟨gt, 0, none⟩) n n) (hol.getD i 0) _ (by omega)) ?_)
        rintro _ w106 ⟨rfl, hT107⟩
        have hT0 := hT0.t0 hT107
        have hKn := hKn.tch0 hT107
        have hTr := hTr.tch0 hT107
        have hV := hV.tch0 hT107
        have hB6 := hB6.tch0 hT107
        refine sg [(35, .bool (!(decide (hol.getD i 0 / 2 < n))))] (by kernel_rfl) ?_
        refine op_nil ?_
        refine W_cond (!(decide (hol.getD i 0 / 2 < n))) (by kernel_rfl) (by kernel_rfl) (fun hc108 => ?_) (fun hc108 => ?_)
        · replace hc108 : n ≤ hol.getD i 0 / 2 := (Nat.not_lt.1 (of_decide_eq_false (not_t hc108)))
          exfalso; omega
        · replace hc108 : hol.getD i 0 / 2 < n := (of_decide_eq_true (not_f hc108))
          refine W_skip ?_
          refine W_seq ?_
          refine W_seq ?_
          refine W_region (by kernel_rfl) ?_
          refine st (by rfl) (S_val (v := .agg #[.slice (some ⟨gk, 0, none⟩) n n, .slice (some ⟨gt, 0, none⟩) n n]) (R_loadA [.slice (some ⟨gk, 0, none⟩) n n, .slice (some ⟨gt, 0, none⟩) n n] (by kernel_rfl) (by kernel_rfl) (by kernel_rfl) (fun k u hk => by rw [hV.cell]; exact get_part _ 0 _ k u rfl hk)) ?_)
          refine sg [(39, .int .i64 ((hol.getD i 0 : Nat) : Int))] (by kernel_rfl) ?_
          refine st (by rfl) (S_call (args := [.agg #[.slice (some ⟨gk, 0, none⟩) n n, .slice (some ⟨gt, 0, none⟩) n n], .int .i64 ((hol.getD i 0 : Nat) : Int)]) (by kernel_rfl) (holds_ok n (some ⟨gk, 0, none⟩) (some ⟨gt, 0, none⟩) n n kn tr (hol.getD i 0) _ (hKn.rd 1 n (by rw [boolsV_length]; omega) (by omega)) (hTr.rd 1 n (by rw [boolsV_length]; omega) (by omega)) (by omega) (by omega) (by omega)) ?_)
          rintro _ w109 ⟨rfl, hT110⟩
          have hT0 := hT0.t0 hT110
          have hKn := hKn.tch0 hT110
          have hTr := hTr.tch0 hT110
          have hV := hV.tch0 hT110
          have hB6 := hB6.tch0 hT110
          refine sg [(37, .tuple #[.bool (hIs kn tr (hol.getD i 0)), .bool (kn.getD ((hol.getD i 0) / 2) false)]), (41, .bool (hIs kn tr (hol.getD i 0))), (42, .bool (kn.getD ((hol.getD i 0) / 2) false)), (11, .bool (hIs kn tr (hol.getD i 0))), (12, .bool (kn.getD ((hol.getD i 0) / 2) false))] (by kernel_rfl) ?_
          refine op_nil ?_
          refine W_seq ?_
          refine W_fg [(0, .int .i64 ((n : Nat) : Int)), (1, .slice H hm hcp), (2, .slice L k lcp), (6, .pointer (some ⟨w.heap.size, 0, none⟩)), (7, .bool false), (8, .pointer (some ⟨b8, 0, none⟩)), (9, .int .i64 ((i : Nat) : Int)), (10, .int .i64 ((hol.getD i 0 : Nat) : Int)), (11, .bool (hIs kn tr (hol.getD i 0))), (12, .bool (kn.getD ((hol.getD i 0) / 2) false)), (25, .bool (decide (((i : Nat) : Int) < (hm : Int)))), (35, .bool (!(decide (hol.getD i 0 / 2 < n))))] (by kernel_rfl) fun ρ => ?_
          refine W_region (by kernel_rfl) ?_
          refine sg [(43, .bool (kn.getD ((hol.getD i 0) / 2) false)), (44, .bool (kn.getD ((hol.getD i 0) / 2) false))] (by kernel_rfl) ?_
          cases hb111 : kn.getD ((hol.getD i 0) / 2) false
          · replace hb111 : kn.getD ((hol.getD i 0) / 2) false = false := (hb111)
            refine sg [(45, undef), (46, undef), (47, .bool false)] (by kernel_rfl) ?_
            refine op_nil ?_
            refine W_cond false (by kernel_rfl) (by kernel_rfl) (fun h => nomatch h) (fun _ => ?_)
            refine W_skip ?_
            refine W_seq ?_
            refine W_region (by kernel_rfl) ?_
            refine sg [(49, .pointer (some ⟨b8, 0, none⟩))] (by kernel_rfl) ?_
            refine st (by rfl) (S_val (v := .slice (some ⟨gk, 0, none⟩) n n) (R_load (v := .slice (some ⟨gk, 0, none⟩) n n) (by kernel_rfl) (by kernel_rfl) ((hV.cell 0).trans rfl)) ?_)
            refine sg [(51, .int .i64 ((hol.getD i 0 : Nat) : Int)), (52, .int .i64 (IntKind.i64.wrap (((hol.getD i 0 : Nat) : Int).tdiv 2)))] (by kernel_rfl) ?_
            rw [show IntKind.i64.wrap (((hol.getD i 0 : Nat) : Int).tdiv 2) = ((hol.getD i 0 : Nat) : Int) / 2 from by rw [Int.tdiv_eq_ediv_of_nonneg (by omega)]; exact wrap_i64 (by omega) (by omega)]
            refine fixR (y := (((hol.getD i 0) / 2 : Nat) : Int)) (by omega) ?_
            refine stv (v := .pointer (some ⟨gk, (hol.getD i 0) / 2, none⟩)) (by rfl) (R_index0 (b := gk) (len := n) (cap := n) (k := .i64) (i := (((hol.getD i 0) / 2 : Nat) : Int)) (e := 4) ((hol.getD i 0) / 2) (by kernel_rfl) (by kernel_rfl) (by kernel_rfl) (by kernel_rfl) rfl (by first | omega | (simp only [List.length_set, List.length_map]; omega))) ?_
            refine st (by rfl) (S_store (b := gk) (j := (hol.getD i 0) / 2) (v := .bool true) (by kernel_rfl) (by kernel_rfl) (by kernel_rfl) (by rfl) hKn (by (try rw [List.length_append]); rw [boolsV_length]; first | omega | (simp only [List.length_set, List.length_map]; omega)) fun w112 hT113 hs114 hKn' => ?_)
            have hT0 := (hT0).then hT113 (fun c e => by have : c = gk := e; omega)
            have hTr := hTr.tch hT113 (fun e => by have : gt = gk := e; omega)
            have hV := hV.tch hT113 (hV.ne hKn (by decide))
            have hB6 := hB6.tch hT113 (hB6.ne hKn (by decide))
            replace hKn : Blk w112 (gk) 4 (boolsV (kn.set ((hol.getD i 0) / 2) true)) := by rw [← boolsV_set]; exact hKn'
            refine op_nil ?_
            refine W_fg [(0, .int .i64 ((n : Nat) : Int)), (1, .slice H hm hcp), (2, .slice L k lcp), (6, .pointer (some ⟨w.heap.size, 0, none⟩)), (7, .bool false), (8, .pointer (some ⟨b8, 0, none⟩)), (9, .int .i64 ((i : Nat) : Int)), (10, .int .i64 ((hol.getD i 0 : Nat) : Int)), (11, .bool (hIs kn tr (hol.getD i 0))), (12, .bool false), (25, .bool (decide (((i : Nat) : Int) < (hm : Int)))), (35, .bool (!(decide (hol.getD i 0 / 2 < n)))), (47, .bool false)] (by kernel_rfl) fun ρ => ?_
            refine W_draw (fun w' => Blk w' (b8) 54 [.slice (some ⟨gk, 0, none⟩) n n, .slice (some ⟨gt, 0, none⟩) n n]) (by kernel_rfl) (by kernel_rfl) (by kernel_rfl) fun w115 hT116 hh117 => ?_
            have hT0 := hT0.t0 hT116
            have hKn := hKn.tch0 hT116
            have hTr := hTr.tch0 hT116
            have hV := hV.tch0 hT116
            have hB6 := hB6.tch0 hT116
            refine dtk [0, 2, 4] #[true, false, true, false, true, false, false, false, false] [(54, .pointer (some ⟨b8, 1, none⟩)), (56, .int .i64 ((hol.getD i 0 : Nat) : Int)), (58, .int .i64 ((hol.getD i 0 : Nat) : Int))] hV (by kernel_rfl) ?_
            refine d_val (v := .slice (some ⟨gt, 0, none⟩) n n) 1 (by rfl) (by kernel_rfl) (by kernel_rfl) (by kernel_rfl) (fun w' hs => by have hV := hs; exact R_load (v := .slice (some ⟨gt, 0, none⟩) n n) (by kernel_rfl) (by kernel_rfl) ((hV.cell 1).trans rfl)) hV ?_
            refine dtk [3] #[true, true, true, true, true, false, false, false, false] [(57, .int .i64 (IntKind.i64.wrap (((hol.getD i 0 : Nat) : Int).tdiv 2)))] hV (by kernel_rfl) ?_
            rw [show IntKind.i64.wrap (((hol.getD i 0 : Nat) : Int).tdiv 2) = ((hol.getD i 0 : Nat) : Int) / 2 from by rw [Int.tdiv_eq_ediv_of_nonneg (by omega)]; exact wrap_i64 (by omega) (by omega)]
            refine fixD (y := (((hol.getD i 0) / 2 : Nat) : Int)) (by omega) ?_
            refine d_one 5 (by kernel_rfl) (by rfl) (by kernel_rfl) (S_call (args := [.int .i64 ((hol.getD i 0 : Nat) : Int)]) (by kernel_rfl) (rneg_ok (hol.getD i 0) _ (by omega)) ?_)
            rintro _ w118 ⟨rfl, hT119⟩
            have hT0 := hT0.t0 hT119
            have hKn := hKn.tch0 hT119
            have hTr := hTr.tch0 hT119
            have hV := hV.tch0 hT119
            have hB6 := hB6.tch0 hT119
            refine ⟨hV, ?_⟩
            refine dtk [6] #[true, true, true, true, true, true, true, false, false] [(60, .bool (!(decide (hol.getD i 0 % 2 = 1))))] hV (by kernel_rfl) ?_
            refine d_val (v := .pointer (some ⟨gt, (hol.getD i 0) / 2, none⟩)) 7 (by rfl) (by kernel_rfl) (by kernel_rfl) (by kernel_rfl) (fun w' hs => by have hV := hs; exact R_index0 (b := gt) (len := n) (cap := n) (k := .i64) (i := (((hol.getD i 0) / 2 : Nat) : Int)) (e := 4) ((hol.getD i 0) / 2) (by kernel_rfl) (by kernel_rfl) (by kernel_rfl) (by kernel_rfl) rfl (by first | omega | (simp only [List.length_set, List.length_map]; omega))) hV ?_
            refine d_one 8 (by kernel_rfl) (by rfl) (by kernel_rfl) (S_store (b := gt) (j := (hol.getD i 0) / 2) (v := .bool (!(decide (hol.getD i 0 % 2 = 1)))) (by kernel_rfl) (by kernel_rfl) (by kernel_rfl) (by rfl) hTr (by (try rw [List.length_append]); rw [boolsV_length]; first | omega | (simp only [List.length_set, List.length_map]; omega)) fun w120 hT121 hs122 hTr' => ?_)
            have hT0 := (hT0).then hT121 (fun c e => by have : c = gt := e; omega)
            have hKn := hKn.tch hT121 (fun e => by have : gk = gt := e; omega)
            have hV := hV.tch hT121 (hV.ne hTr (by decide))
            have hB6 := hB6.tch hT121 (hB6.ne hTr (by decide))
            replace hTr : Blk w120 (gt) 4 (boolsV (tr.set ((hol.getD i 0) / 2) (!(decide (hol.getD i 0 % 2 = 1))))) := by rw [← boolsV_set]; exact hTr'
            refine ⟨hV, ?_⟩
            refine d_done (by kernel_rfl) ?_
            refine W_fg [(0, .int .i64 ((n : Nat) : Int)), (1, .slice H hm hcp), (2, .slice L k lcp), (6, .pointer (some ⟨w.heap.size, 0, none⟩)), (7, .bool false), (8, .pointer (some ⟨b8, 0, none⟩)), (9, .int .i64 ((i : Nat) : Int)), (10, .int .i64 ((hol.getD i 0 : Nat) : Int)), (11, .bool (hIs kn tr (hol.getD i 0))), (12, .bool false), (25, .bool (decide (((i : Nat) : Int) < (hm : Int)))), (35, .bool (!(decide (hol.getD i 0 / 2 < n)))), (47, .bool false)] (by kernel_rfl) fun ρ => ?_
            refine W_region (by kernel_rfl) ?_
            refine sg [(26, .int .i64 ((i : Nat) : Int)), (27, .int .i64 (IntKind.i64.wrap (((i : Nat) : Int) + 1)))] (by kernel_rfl) ?_
            rw [show IntKind.i64.wrap (((i : Nat) : Int) + 1) = ((i : Nat) : Int) + 1 from wrap_i64 (by omega) (by omega)]
            refine sg [(9, .int .i64 (((i : Nat) : Int) + 1))] (by kernel_rfl) ?_
            refine op_nil ?_
            refine ⟨_, ?_, kn.set ((hol.getD i 0) / 2) true, tr.set ((hol.getD i 0) / 2) (!(decide (hol.getD i 0 % 2 = 1))), i + 1, _, updL_self (by kernel_rfl), ?_, ?_, ?_, ?_, ?_, hT0, hKn, hTr, hV, hB6, rfl⟩
            · omega
            · rw [List.length_set]; exact l1
            · rw [List.length_set]; exact l2
            · exact hc.put (hfl (by omega)) (by omega) (by omega)
            · exact Kn_put hh (by omega)
            · omega
          · replace hb111 : kn.getD ((hol.getD i 0) / 2) false = true := (hb111)
            refine sg [(45, .bool (hIs kn tr (hol.getD i 0))), (46, .bool (!(hIs kn tr (hol.getD i 0)))), (47, .bool (!(hIs kn tr (hol.getD i 0))))] (by kernel_rfl) ?_
            refine op_nil ?_
            refine W_cond (!(hIs kn tr (hol.getD i 0))) (by kernel_rfl) (by kernel_rfl) (fun hc123 => ?_) (fun hc123 => ?_)
            · replace hc123 : hIs kn tr (hol.getD i 0) = false := ((not_t hc123))
              exfalso; have q := (hc.is (show Kn kn (hol.getD i 0) by unfold Kn; assumption)).symm.trans hc123; rw [hfl (by omega)] at q; cases q
            · replace hc123 : hIs kn tr (hol.getD i 0) = true := ((not_f hc123))
              refine W_skip ?_
              refine W_seq ?_
              refine W_region (by kernel_rfl) ?_
              refine sg [(49, .pointer (some ⟨b8, 0, none⟩))] (by kernel_rfl) ?_
              refine st (by rfl) (S_val (v := .slice (some ⟨gk, 0, none⟩) n n) (R_load (v := .slice (some ⟨gk, 0, none⟩) n n) (by kernel_rfl) (by kernel_rfl) ((hV.cell 0).trans rfl)) ?_)
              refine sg [(51, .int .i64 ((hol.getD i 0 : Nat) : Int)), (52, .int .i64 (IntKind.i64.wrap (((hol.getD i 0 : Nat) : Int).tdiv 2)))] (by kernel_rfl) ?_
              rw [show IntKind.i64.wrap (((hol.getD i 0 : Nat) : Int).tdiv 2) = ((hol.getD i 0 : Nat) : Int) / 2 from by rw [Int.tdiv_eq_ediv_of_nonneg (by omega)]; exact wrap_i64 (by omega) (by omega)]
              refine fixR (y := (((hol.getD i 0) / 2 : Nat) : Int)) (by omega) ?_
              refine stv (v := .pointer (some ⟨gk, (hol.getD i 0) / 2, none⟩)) (by rfl) (R_index0 (b := gk) (len := n) (cap := n) (k := .i64) (i := (((hol.getD i 0) / 2 : Nat) : Int)) (e := 4) ((hol.getD i 0) / 2) (by kernel_rfl) (by kernel_rfl) (by kernel_rfl) (by kernel_rfl) rfl (by first | omega | (simp only [List.length_set, List.length_map]; omega))) ?_
              refine st (by rfl) (S_store (b := gk) (j := (hol.getD i 0) / 2) (v := .bool true) (by kernel_rfl) (by kernel_rfl) (by kernel_rfl) (by rfl) hKn (by (try rw [List.length_append]); rw [boolsV_length]; first | omega | (simp only [List.length_set, List.length_map]; omega)) fun w124 hT125 hs126 hKn' => ?_)
              have hT0 := (hT0).then hT125 (fun c e => by have : c = gk := e; omega)
              have hTr := hTr.tch hT125 (fun e => by have : gt = gk := e; omega)
              have hV := hV.tch hT125 (hV.ne hKn (by decide))
              have hB6 := hB6.tch hT125 (hB6.ne hKn (by decide))
              replace hKn : Blk w124 (gk) 4 (boolsV (kn.set ((hol.getD i 0) / 2) true)) := by rw [← boolsV_set]; exact hKn'
              refine op_nil ?_
              refine W_fg [(0, .int .i64 ((n : Nat) : Int)), (1, .slice H hm hcp), (2, .slice L k lcp), (6, .pointer (some ⟨w.heap.size, 0, none⟩)), (7, .bool false), (8, .pointer (some ⟨b8, 0, none⟩)), (9, .int .i64 ((i : Nat) : Int)), (10, .int .i64 ((hol.getD i 0 : Nat) : Int)), (11, .bool (hIs kn tr (hol.getD i 0))), (12, .bool true), (25, .bool (decide (((i : Nat) : Int) < (hm : Int)))), (35, .bool (!(decide (hol.getD i 0 / 2 < n)))), (47, .bool (!(hIs kn tr (hol.getD i 0))))] (by kernel_rfl) fun ρ => ?_
              refine W_draw (fun w' => Blk w' (b8) 54 [.slice (some ⟨gk, 0, none⟩) n n, .slice (some ⟨gt, 0, none⟩) n n]) (by kernel_rfl) (by kernel_rfl) (by kernel_rfl) fun w127 hT128 hh129 => ?_
              have hT0 := hT0.t0 hT128
              have hKn := hKn.tch0 hT128
              have hTr := hTr.tch0 hT128
              have hV := hV.tch0 hT128
              have hB6 := hB6.tch0 hT128
              refine dtk [0, 2, 4] #[true, false, true, false, true, false, false, false, false] [(54, .pointer (some ⟨b8, 1, none⟩)), (56, .int .i64 ((hol.getD i 0 : Nat) : Int)), (58, .int .i64 ((hol.getD i 0 : Nat) : Int))] hV (by kernel_rfl) ?_
              refine d_val (v := .slice (some ⟨gt, 0, none⟩) n n) 1 (by rfl) (by kernel_rfl) (by kernel_rfl) (by kernel_rfl) (fun w' hs => by have hV := hs; exact R_load (v := .slice (some ⟨gt, 0, none⟩) n n) (by kernel_rfl) (by kernel_rfl) ((hV.cell 1).trans rfl)) hV ?_
              refine dtk [3] #[true, true, true, true, true, false, false, false, false] [(57, .int .i64 (IntKind.i64.wrap (((hol.getD i 0 : Nat) : Int).tdiv 2)))] hV (by kernel_rfl) ?_
              rw [show IntKind.i64.wrap (((hol.getD i 0 : Nat) : Int).tdiv 2) = ((hol.getD i 0 : Nat) : Int) / 2 from by rw [Int.tdiv_eq_ediv_of_nonneg (by omega)]; exact wrap_i64 (by omega) (by omega)]
              refine fixD (y := (((hol.getD i 0) / 2 : Nat) : Int)) (by omega) ?_
              refine d_one 5 (by kernel_rfl) (by rfl) (by kernel_rfl) (S_call (args := [.int .i64 ((hol.getD i 0 : Nat) : Int)]) (by kernel_rfl) (rneg_ok (hol.getD i 0) _ (by omega)) ?_)
              rintro _ w130 ⟨rfl, hT131⟩
              have hT0 := hT0.t0 hT131
              have hKn := hKn.tch0 hT131
              have hTr := hTr.tch0 hT131
              have hV := hV.tch0 hT131
              have hB6 := hB6.tch0 hT131
              refine ⟨hV, ?_⟩
              refine dtk [6] #[true, true, true, true, true, true, true, false, false] [(60, .bool (!(decide (hol.getD i 0 % 2 = 1))))] hV (by kernel_rfl) ?_
              refine d_val (v := .pointer (some ⟨gt, (hol.getD i 0) / 2, none⟩)) 7 (by rfl) (by kernel_rfl) (by kernel_rfl) (by kernel_rfl) (fun w' hs => by have hV := hs; exact R_index0 (b := gt) (len := n) (cap := n) (k := .i64) (i := (((hol.getD i 0) / 2 : Nat) : Int)) (e := 4) ((hol.getD i 0) / 2) (by kernel_rfl) (by kernel_rfl) (by kernel_rfl) (by kernel_rfl) rfl (by first | omega | (simp only [List.length_set, List.length_map]; omega))) hV ?_
              refine d_one 8 (by kernel_rfl) (by rfl) (by kernel_rfl) (S_store (b := gt) (j := (hol.getD i 0) / 2) (v := .bool (!(decide (hol.getD i 0 % 2 = 1)))) (by kernel_rfl) (by kernel_rfl) (by kernel_rfl) (by rfl) hTr (by (try rw [List.length_append]); rw [boolsV_length]; first | omega | (simp only [List.length_set, List.length_map]; omega)) fun w132 hT133 hs134 hTr' => ?_)
              have hT0 := (hT0).then hT133 (fun c e => by have : c = gt := e; omega)
              have hKn := hKn.tch hT133 (fun e => by have : gk = gt := e; omega)
              have hV := hV.tch hT133 (hV.ne hTr (by decide))
              have hB6 := hB6.tch hT133 (hB6.ne hTr (by decide))
              replace hTr : Blk w132 (gt) 4 (boolsV (tr.set ((hol.getD i 0) / 2) (!(decide (hol.getD i 0 % 2 = 1))))) := by rw [← boolsV_set]; exact hTr'
              refine ⟨hV, ?_⟩
              refine d_done (by kernel_rfl) ?_
              refine W_fg [(0, .int .i64 ((n : Nat) : Int)), (1, .slice H hm hcp), (2, .slice L k lcp), (6, .pointer (some ⟨w.heap.size, 0, none⟩)), (7, .bool false), (8, .pointer (some ⟨b8, 0, none⟩)), (9, .int .i64 ((i : Nat) : Int)), (10, .int .i64 ((hol.getD i 0 : Nat) : Int)), (11, .bool (hIs kn tr (hol.getD i 0))), (12, .bool true), (25, .bool (decide (((i : Nat) : Int) < (hm : Int)))), (35, .bool (!(decide (hol.getD i 0 / 2 < n)))), (47, .bool (!(hIs kn tr (hol.getD i 0))))] (by kernel_rfl) fun ρ => ?_
              refine W_region (by kernel_rfl) ?_
              refine sg [(26, .int .i64 ((i : Nat) : Int)), (27, .int .i64 (IntKind.i64.wrap (((i : Nat) : Int) + 1)))] (by kernel_rfl) ?_
              rw [show IntKind.i64.wrap (((i : Nat) : Int) + 1) = ((i : Nat) : Int) + 1 from wrap_i64 (by omega) (by omega)]
              refine sg [(9, .int .i64 (((i : Nat) : Int) + 1))] (by kernel_rfl) ?_
              refine op_nil ?_
              refine ⟨_, ?_, kn.set ((hol.getD i 0) / 2) true, tr.set ((hol.getD i 0) / 2) (!(decide (hol.getD i 0 % 2 = 1))), i + 1, _, updL_self (by kernel_rfl), ?_, ?_, ?_, ?_, ?_, hT0, hKn, hTr, hV, hB6, rfl⟩
              · omega
              · rw [List.length_set]; exact l1
              · rw [List.length_set]; exact l2
              · exact hc.put (hfl (by omega)) (by omega) (by omega)
              · exact Kn_put hh (by omega)
              · omega
      · replace hc105 : (hm : Int) ≤ ((i : Nat) : Int) := (Int.not_lt.1 (of_decide_eq_false hc105))
        refine W_exit ?_
        refine X_hit ?_
        refine W_seq ?_
        refine W_seq ?_
        refine W_region (by kernel_rfl) ?_
        refine sg [(13, .bool true)] (by kernel_rfl) ?_
        refine op_nil ?_
        refine W_block ?_
        refine W_loop (fun m ρ w' => ∃ (kn tr : List Bool) (ag : Bool) (ρ0 : Env), ρ = updL ρ0 [(0, .int .i64 ((n : Nat) : Int)), (1, .slice H hm hcp), (2, .slice L k lcp), (6, .pointer (some ⟨w.heap.size, 0, none⟩)), (7, .bool false), (8, .pointer (some ⟨b8, 0, none⟩)), (13, .bool ag)] ∧ (kn.length = n) ∧ (tr.length = n) ∧ (Cons b kn tr) ∧ (∀ x, x ∈ hol → Kn kn x) ∧ (ag = false → ∀ c, c ∈ cs → Settled kn tr c) ∧ Tch N0 w w' ∧ Blk w' (gk) 4 (boolsV kn) ∧ Blk w' (gt) 4 (boolsV tr) ∧ Blk w' (b8) 54 [.slice (some ⟨gk, 0, none⟩) n n, .slice (some ⟨gt, 0, none⟩) n n] ∧ Blk w' (w.heap.size) 54 [.slice none 0 0, .slice none 0 0] ∧ m = 2 * unk kn + (if ag = true then 1 else 0)) (m := 2 * unk kn + (if true = true then 1 else 0)) ?_ ?_
        · refine ⟨kn, tr, true, _, updL_self (by kernel_rfl), l1, l2, hc, (fun x hx => by obtain ⟨j, hj, rfl⟩ := memg hx; exact hh j (by omega)), (fun h => by cases h), hT0, hKn, hTr, hV, hB6, rfl⟩
        · rintro m ρ w135 ⟨kn, tr, ag, ρ, rfl, l1, l2, hc, hh, hse, hT0, hKn, hTr, hV, hB6, rfl⟩
          refine W_seq ?_
          refine W_seq ?_
          refine W_region (by kernel_rfl) ?_
          refine sg [(62, .bool ag)] (by kernel_rfl) ?_
          refine op_nil ?_
          refine W_cond (ag) (by kernel_rfl) (by kernel_rfl) (fun hc136 => ?_) (fun hc136 => ?_)
          · replace hc136 : ag = true := (hc136)
            have hc_ := hc136
            refine W_skip ?_
            refine W_block ?_
            refine W_seq ?_
            refine W_region (by kernel_rfl) ?_
            refine sg [(13, .bool false)] (by kernel_rfl) ?_
            refine op_nil ?_
            refine W_seq ?_
            refine W_region (by kernel_rfl) ?_
            refine sg [(14, .int .i64 0)] (by kernel_rfl) ?_
            refine op_nil ?_
            refine W_block ?_
            refine W_loop (fun m ρ w' => ∃ (kn2 tr2 : List Bool) (ag2 : Bool) (i : Nat) (ρ0 : Env), ρ = updL ρ0 [(0, .int .i64 ((n : Nat) : Int)), (1, .slice H hm hcp), (2, .slice L k lcp), (6, .pointer (some ⟨w.heap.size, 0, none⟩)), (7, .bool false), (8, .pointer (some ⟨b8, 0, none⟩)), (13, .bool ag2), (14, .int .i64 ((i : Nat) : Int))] ∧ (kn2.length = n) ∧ (tr2.length = n) ∧ (Cons b kn2 tr2) ∧ (∀ x, x ∈ hol → Kn kn2 x) ∧ (ag2 = false → kn2 = kn ∧ ∀ j, j < i → Settled kn2 tr2 (cs.getD j [])) ∧ (ag2 = true → unk kn2 < unk kn) ∧ (i ≤ k) ∧ Tch N0 w w' ∧ Blk w' (gk) 4 (boolsV kn2) ∧ Blk w' (gt) 4 (boolsV tr2) ∧ Blk w' (b8) 54 [.slice (some ⟨gk, 0, none⟩) n n, .slice (some ⟨gt, 0, none⟩) n n] ∧ Blk w' (w.heap.size) 54 [.slice none 0 0, .slice none 0 0] ∧ m = k - i) (m := k - 0) ?_ ?_
            · refine ⟨kn, tr, false, 0, _, updL_self (by kernel_rfl), l1, l2, hc, hh, (fun _ => ⟨rfl, fun j hj => by omega⟩), (fun h => by cases h), by omega, hT0, hKn, hTr, hV, hB6, rfl⟩
            · rintro m ρ w137 ⟨kn2, tr2, ag2, i, ρ, rfl, m1, m2, mc, mh, mf, mt, hi, hT0, hKn, hTr, hV, hB6, rfl⟩
              refine W_seq ?_
              refine W_seq ?_
              refine W_region (by kernel_rfl) ?_
              refine sg [(63, .int .i64 ((i : Nat) : Int)), (64, .slice L k lcp), (65, .int .i64 (k : Int)), (66, .bool (decide (((i : Nat) : Int) < (k : Int))))] (by kernel_rfl) ?_
              refine op_nil ?_
              refine W_cond (decide (((i : Nat) : Int) < (k : Int))) (by kernel_rfl) (by kernel_rfl) (fun hc138 => ?_) (fun hc138 => ?_)
              · replace hc138 : ((i : Nat) : Int) < (k : Int) := (of_decide_eq_true hc138)
                refine W_skip ?_
                refine W_seq ?_
                refine W_block ?_
                refine W_seq ?_
                obtain ⟨C, cm, cc, hLi, hCi⟩ := hcl i (by omega)
                have hcf := (hfc _ (cmem (show i < cs.length by omega))).2
                refine W_draw (fun w' => Blk w' (gk) 4 (boolsV kn2) ∧ Blk w' (gt) 4 (boolsV tr2) ∧ Blk w' (b8) 54 [.slice (some ⟨gk, 0, none⟩) n n, .slice (some ⟨gt, 0, none⟩) n n] ∧ Blk w' (w.heap.size) 54 [.slice none 0 0, .slice none 0 0]) (by kernel_rfl) (by kernel_rfl) (by kernel_rfl) fun w139 hT140 hh141 => ?_
                have hT0 := hT0.t0 hT140
                have hKn := hKn.tch0 hT140
                have hTr := hTr.tch0 hT140
                have hV := hV.tch0 hT140
                have hB6 := hB6.tch0 hT140
                refine dtk [1, 2] #[false, true, true, false, false, false, false, false, false, false, false] [(71, .slice L k lcp), (72, .int .i64 ((i : Nat) : Int))] ⟨hKn, hTr, hV, hB6⟩ (by kernel_rfl) ?_
                refine d_val (v := .agg #[.slice (some ⟨gk, 0, none⟩) n n, .slice (some ⟨gt, 0, none⟩) n n]) 0 (by rfl) (by kernel_rfl) (by kernel_rfl) (by kernel_rfl) (fun w' hs => by obtain ⟨hKn, hTr, hV, hB6⟩ := hs; exact R_loadA [.slice (some ⟨gk, 0, none⟩) n n, .slice (some ⟨gt, 0, none⟩) n n] (by kernel_rfl) (by kernel_rfl) (by kernel_rfl) (fun k u hk => by rw [hV.cell]; exact get_part _ 0 _ k u rfl hk)) ⟨hKn, hTr, hV, hB6⟩ ?_
                refine d_val (v := ptrAt L i) 3 (by rfl) (by kernel_rfl) (by kernel_rfl) (by kernel_rfl) (fun w' hs => by obtain ⟨hKn, hTr, hV, hB6⟩ := hs; exact R_indexRd1 (len := k) (cap := lcp) (k := .i64) (i := ((i : Nat) : Int)) (e := 27) i (hL.tch0 hT0) (by kernel_rfl) (by kernel_rfl) (by kernel_rfl) (by kernel_rfl) rfl (by omega)) ⟨hKn, hTr, hV, hB6⟩ ?_
                refine d_one 4 (by kernel_rfl) (by rfl) (by kernel_rfl) (S_val (v := .slice C cm cc) (R_loadRd (v := .slice C cm cc) (hL.tch0 hT0) (by omega) (by kernel_rfl) (by kernel_rfl) (hLi)) ?_)
                refine ⟨⟨hKn, hTr, hV, hB6⟩, ?_⟩
                refine d_one 5 (by kernel_rfl) (by rfl) (by kernel_rfl) (S_call (args := [.agg #[.slice (some ⟨gk, 0, none⟩) n n, .slice (some ⟨gt, 0, none⟩) n n], .slice C cm cc]) (by kernel_rfl) (left_ok n (some ⟨gk, 0, none⟩) (some ⟨gt, 0, none⟩) n n kn2 tr2 C cm cc (cs.getD i []) _ (hKn.rd 1 n (by rw [boolsV_length]; omega) (by omega)) (hTr.rd 1 n (by rw [boolsV_length]; omega) (by omega)) (by omega) (hCi.tch0 hT0) hcf (mc.can (hfc _ (cmem (show i < cs.length by omega))).1)) ?_)
                rintro _ w142 ⟨y144, rfl, hLe, hT143⟩
                have hT0 := hT0.t0 hT143
                have hKn := hKn.tch0 hT143
                have hTr := hTr.tch0 hT143
                have hV := hV.tch0 hT143
                have hB6 := hB6.tch0 hT143
                refine ⟨⟨hKn, hTr, hV, hB6⟩, ?_⟩
                refine dtk [6, 7, 8, 9, 10] #[true, true, true, true, true, true, true, true, true, true, true] [(69, .tuple #[.int .i64 y144, .bool true]), (76, .int .i64 y144), (77, .bool true), (15, .int .i64 y144), (16, .bool true)] ⟨hKn, hTr, hV, hB6⟩ (by kernel_rfl) ?_
                refine d_done (by kernel_rfl) ?_
                refine W_seq ?_
                refine W_seq ?_
                refine W_fg [(0, .int .i64 ((n : Nat) : Int)), (1, .slice H hm hcp), (2, .slice L k lcp), (6, .pointer (some ⟨w.heap.size, 0, none⟩)), (7, .bool false), (8, .pointer (some ⟨b8, 0, none⟩)), (13, .bool ag2), (14, .int .i64 ((i : Nat) : Int)), (15, .int .i64 y144), (16, .bool true), (66, .bool (decide (((i : Nat) : Int) < (k : Int))))] (by kernel_rfl) fun ρ => ?_
                refine W_region (by kernel_rfl) ?_
                refine sg [(78, .bool true), (79, .bool false)] (by kernel_rfl) ?_
                refine op_nil ?_
                refine W_cond false (by kernel_rfl) (by kernel_rfl) (fun h => nomatch h) (fun _ => ?_)
                refine W_skip ?_
                refine W_seq ?_
                refine W_region (by kernel_rfl) ?_
                refine sg [(81, .int .i64 y144), (82, .bool (decide (y144 ≥ 0)))] (by kernel_rfl) ?_
                refine op_nil ?_
                refine W_cond (decide (y144 ≥ 0)) (by kernel_rfl) (by kernel_rfl) (fun hc145 => ?_) (fun hc145 => ?_)
                · replace hc145 : 0 ≤ y144 := (of_decide_eq_true hc145)
                  refine W_seq ?_
                  obtain ⟨x, rfl, hx1, hx2, hx3⟩ := hLe.pos (by omega)
                  have hxn := hcf x hx1
                  refine W_region (by kernel_rfl) ?_
                  refine sg [(83, .pointer (some ⟨b8, 0, none⟩))] (by kernel_rfl) ?_
                  refine st (by rfl) (S_val (v := .slice (some ⟨gk, 0, none⟩) n n) (R_load (v := .slice (some ⟨gk, 0, none⟩) n n) (by kernel_rfl) (by kernel_rfl) ((hV.cell 0).trans rfl)) ?_)
                  refine sg [(85, .int .i64 ((x : Nat) : Int)), (86, .int .i64 (IntKind.i64.wrap (((x : Nat) : Int).tdiv 2)))] (by kernel_rfl) ?_
                  rw [show IntKind.i64.wrap (((x : Nat) : Int).tdiv 2) = ((x : Nat) : Int) / 2 from by rw [Int.tdiv_eq_ediv_of_nonneg (by omega)]; exact wrap_i64 (by omega) (by omega)]
                  refine fixR (y := ((x / 2 : Nat) : Int)) (by omega) ?_
                  refine stv (v := .pointer (some ⟨gk, x / 2, none⟩)) (by rfl) (R_index0 (b := gk) (len := n) (cap := n) (k := .i64) (i := ((x / 2 : Nat) : Int)) (e := 4) (x / 2) (by kernel_rfl) (by kernel_rfl) (by kernel_rfl) (by kernel_rfl) rfl (by first | omega | (simp only [List.length_set, List.length_map]; omega))) ?_
                  refine st (by rfl) (S_store (b := gk) (j := x / 2) (v := .bool true) (by kernel_rfl) (by kernel_rfl) (by kernel_rfl) (by rfl) hKn (by (try rw [List.length_append]); rw [boolsV_length]; first | omega | (simp only [List.length_set, List.length_map]; omega)) fun w146 hT147 hs148 hKn' => ?_)
                  have hT0 := (hT0).then hT147 (fun c e => by have : c = gk := e; omega)
                  have hTr := hTr.tch hT147 (fun e => by have : gt = gk := e; omega)
                  have hV := hV.tch hT147 (hV.ne hKn (by decide))
                  have hB6 := hB6.tch hT147 (hB6.ne hKn (by decide))
                  replace hKn : Blk w146 (gk) 4 (boolsV (kn2.set (x / 2) true)) := by rw [← boolsV_set]; exact hKn'
                  refine op_nil ?_
                  refine W_seq ?_
                  refine W_fg [(0, .int .i64 ((n : Nat) : Int)), (1, .slice H hm hcp), (2, .slice L k lcp), (6, .pointer (some ⟨w.heap.size, 0, none⟩)), (7, .bool false), (8, .pointer (some ⟨b8, 0, none⟩)), (13, .bool ag2), (14, .int .i64 ((i : Nat) : Int)), (15, .int .i64 ((x : Nat) : Int)), (16, .bool true), (66, .bool (decide (((i : Nat) : Int) < (k : Int)))), (79, .bool false), (82, .bool (decide (((x : Nat) : Int) ≥ 0)))] (by kernel_rfl) fun ρ => ?_
                  refine W_draw (fun w' => Blk w' (b8) 54 [.slice (some ⟨gk, 0, none⟩) n n, .slice (some ⟨gt, 0, none⟩) n n]) (by kernel_rfl) (by kernel_rfl) (by kernel_rfl) fun w149 hT150 hh151 => ?_
                  have hT0 := hT0.t0 hT150
                  have hKn := hKn.tch0 hT150
                  have hTr := hTr.tch0 hT150
                  have hV := hV.tch0 hT150
                  have hB6 := hB6.tch0 hT150
                  refine dtk [0, 2, 4] #[true, false, true, false, true, false, false, false, false] [(88, .pointer (some ⟨b8, 1, none⟩)), (90, .int .i64 ((x : Nat) : Int)), (92, .int .i64 ((x : Nat) : Int))] hV (by kernel_rfl) ?_
                  refine d_val (v := .slice (some ⟨gt, 0, none⟩) n n) 1 (by rfl) (by kernel_rfl) (by kernel_rfl) (by kernel_rfl) (fun w' hs => by have hV := hs; exact R_load (v := .slice (some ⟨gt, 0, none⟩) n n) (by kernel_rfl) (by kernel_rfl) ((hV.cell 1).trans rfl)) hV ?_
                  refine dtk [3] #[true, true, true, true, true, false, false, false, false] [(91, .int .i64 (IntKind.i64.wrap (((x : Nat) : Int).tdiv 2)))] hV (by kernel_rfl) ?_
                  rw [show IntKind.i64.wrap (((x : Nat) : Int).tdiv 2) = ((x : Nat) : Int) / 2 from by rw [Int.tdiv_eq_ediv_of_nonneg (by omega)]; exact wrap_i64 (by omega) (by omega)]
                  refine fixD (y := ((x / 2 : Nat) : Int)) (by omega) ?_
                  refine d_one 5 (by kernel_rfl) (by rfl) (by kernel_rfl) (S_call (args := [.int .i64 ((x : Nat) : Int)]) (by kernel_rfl) (rneg_ok x _ (by omega)) ?_)
                  rintro _ w152 ⟨rfl, hT153⟩
                  have hT0 := hT0.t0 hT153
                  have hKn := hKn.tch0 hT153
                  have hTr := hTr.tch0 hT153
                  have hV := hV.tch0 hT153
                  have hB6 := hB6.tch0 hT153
                  refine ⟨hV, ?_⟩
                  refine dtk [6] #[true, true, true, true, true, true, true, false, false] [(94, .bool (!(decide (x % 2 = 1))))] hV (by kernel_rfl) ?_
                  refine d_val (v := .pointer (some ⟨gt, x / 2, none⟩)) 7 (by rfl) (by kernel_rfl) (by kernel_rfl) (by kernel_rfl) (fun w' hs => by have hV := hs; exact R_index0 (b := gt) (len := n) (cap := n) (k := .i64) (i := ((x / 2 : Nat) : Int)) (e := 4) (x / 2) (by kernel_rfl) (by kernel_rfl) (by kernel_rfl) (by kernel_rfl) rfl (by first | omega | (simp only [List.length_set, List.length_map]; omega))) hV ?_
                  refine d_one 8 (by kernel_rfl) (by rfl) (by kernel_rfl) (S_store (b := gt) (j := x / 2) (v := .bool (!(decide (x % 2 = 1)))) (by kernel_rfl) (by kernel_rfl) (by kernel_rfl) (by rfl) hTr (by (try rw [List.length_append]); rw [boolsV_length]; first | omega | (simp only [List.length_set, List.length_map]; omega)) fun w154 hT155 hs156 hTr' => ?_)
                  have hT0 := (hT0).then hT155 (fun c e => by have : c = gt := e; omega)
                  have hKn := hKn.tch hT155 (fun e => by have : gk = gt := e; omega)
                  have hV := hV.tch hT155 (hV.ne hTr (by decide))
                  have hB6 := hB6.tch hT155 (hB6.ne hTr (by decide))
                  replace hTr : Blk w154 (gt) 4 (boolsV (tr2.set (x / 2) (!(decide (x % 2 = 1))))) := by rw [← boolsV_set]; exact hTr'
                  refine ⟨hV, ?_⟩
                  refine d_done (by kernel_rfl) ?_
                  refine W_fg [(0, .int .i64 ((n : Nat) : Int)), (1, .slice H hm hcp), (2, .slice L k lcp), (6, .pointer (some ⟨w.heap.size, 0, none⟩)), (7, .bool false), (8, .pointer (some ⟨b8, 0, none⟩)), (13, .bool ag2), (14, .int .i64 ((i : Nat) : Int)), (15, .int .i64 ((x : Nat) : Int)), (16, .bool true), (66, .bool (decide (((i : Nat) : Int) < (k : Int)))), (79, .bool false), (82, .bool (decide (((x : Nat) : Int) ≥ 0)))] (by kernel_rfl) fun ρ => ?_
                  refine W_region (by kernel_rfl) ?_
                  refine sg [(13, .bool true)] (by kernel_rfl) ?_
                  refine op_nil ?_
                  refine W_region (by kernel_rfl) ?_
                  refine sg [(67, .int .i64 ((i : Nat) : Int)), (68, .int .i64 (IntKind.i64.wrap (((i : Nat) : Int) + 1)))] (by kernel_rfl) ?_
                  rw [show IntKind.i64.wrap (((i : Nat) : Int) + 1) = ((i : Nat) : Int) + 1 from wrap_i64 (by omega) (by omega)]
                  refine sg [(14, .int .i64 (((i : Nat) : Int) + 1))] (by kernel_rfl) ?_
                  refine op_nil ?_
                  refine ⟨_, ?_, kn2.set (x / 2) true, tr2.set (x / 2) (!(decide (x % 2 = 1))), true, i + 1, _, updL_self (by kernel_rfl), ?_, ?_, ?_, ?_, ?_, ?_, ?_, hT0, hKn, hTr, hV, hB6, rfl⟩
                  · omega
                  · rw [List.length_set]; exact m1
                  · rw [List.length_set]; exact m2
                  · exact mc.put (mc.unit (hfc _ (cmem (by omega))).1 hx3) (by omega) (by omega)
                  · exact fun x hx => (mh x hx).set (by omega)
                  · exact fun h => by cases h
                  · exact fun _ => pass_put mf mt (by omega) hx2
                  · omega
                · replace hc145 : y144 < 0 := (Int.not_le.1 (of_decide_eq_false hc145))
                  refine W_skip ?_
                  refine W_region (by kernel_rfl) ?_
                  refine sg [(67, .int .i64 ((i : Nat) : Int)), (68, .int .i64 (IntKind.i64.wrap (((i : Nat) : Int) + 1)))] (by kernel_rfl) ?_
                  rw [show IntKind.i64.wrap (((i : Nat) : Int) + 1) = ((i : Nat) : Int) + 1 from wrap_i64 (by omega) (by omega)]
                  refine sg [(14, .int .i64 (((i : Nat) : Int) + 1))] (by kernel_rfl) ?_
                  refine op_nil ?_
                  refine ⟨_, ?_, kn2, tr2, ag2, i + 1, _, updL_self (by kernel_rfl), m1, m2, mc, mh, ?_, mt, ?_, hT0, hKn, hTr, hV, hB6, rfl⟩
                  · omega
                  · exact fun h => ⟨(mf h).1, settled_put (mf h).2 (hLe.neg (by omega))⟩
                  · omega
              · replace hc138 : (k : Int) ≤ ((i : Nat) : Int) := (Int.not_lt.1 (of_decide_eq_false hc138))
                refine W_exit ?_
                refine X_hit ?_
                refine ⟨_, ?_, kn2, tr2, ag2, _, updL_self (by kernel_rfl), m1, m2, mc, mh, ?_, hT0, hKn, hTr, hV, hB6, rfl⟩
                · exact pass_lt hc_ mf mt
                · exact fun h c hcm => by obtain ⟨j, hj, rfl⟩ := cmemg hcm; exact (mf h).2 j (by omega)
          · replace hc136 : ag = false := (hc136)
            refine W_exit ?_
            refine X_hit ?_
            refine W_seq ?_
            refine W_region (by kernel_rfl) ?_
            refine st (by rfl) (S_val (v := .agg #[.slice (some ⟨gk, 0, none⟩) n n, .slice (some ⟨gt, 0, none⟩) n n]) (R_loadA [.slice (some ⟨gk, 0, none⟩) n n, .slice (some ⟨gt, 0, none⟩) n n] (by kernel_rfl) (by kernel_rfl) (by kernel_rfl) (fun k u hk => by rw [hV.cell]; exact get_part _ 0 _ k u rfl hk)) ?_)
            refine st (by rfl) (S_storeA (b := w.heap.size) (j := 0) (cs := [.slice (some ⟨gk, 0, none⟩) n n, .slice (some ⟨gt, 0, none⟩) n n]) (by kernel_rfl) (by kernel_rfl) (by kernel_rfl) (by simp [oneV]) hB6 (by simp) fun w157 hT158 hs159 hB6' => ?_)
            have hT0 := (hT0).then hT158 (fun c e => by have : c = w.heap.size := e; omega)
            have hKn := hKn.tch hT158 (hKn.ne hB6 (by decide))
            have hTr := hTr.tch hT158 (hTr.ne hB6 (by decide))
            have hV := hV.tch hT158 (fun e => by have : b8 = w.heap.size := e; omega)
            replace hB6 : Blk w157 w.heap.size 54 [.slice (some ⟨gk, 0, none⟩) n n, .slice (some ⟨gt, 0, none⟩) n n] := hB6'
            refine sg [(7, .bool true)] (by kernel_rfl) ?_
            refine op_nil ?_
            refine W_ret ?_
            exact ⟨_, Res_cell1 (b := w.heap.size) (cs := [.slice (some ⟨gk, 0, none⟩) n n, .slice (some ⟨gt, 0, none⟩) n n]) (by rfl) (by kernel_rfl) (by kernel_rfl) (by kernel_rfl) hB6 (by kernel_rfl) (by kernel_rfl), ⟨_, _, _, _, kn, tr, rfl, hKn.rd 1 n (by rw [boolsV_length]; omega) (by omega), hTr.rd 1 n (by rw [boolsV_length]; omega) (by omega), l1, l2, hc, hh, hse (by assumption), hT0⟩⟩

end Go.Proofs.YtnlecdpiccgdpaaV

set_option linter.unusedVariables false
set_option linter.unusedSimpArgs false
namespace Go.Proofs.YtnlecdpiccgdpaaV
open Go Go.RowKit Go.Proofs

set_option maxRecDepth 100000 in
theorem fresh_ok (p n : Nat) (sv mv : Value) (w : World) (hP : Blk w p 78 [.int .i64 ((n : Nat) : Int), sv, mv]) (hn : n ≤ 68719476736) : Ret Try.prog 51 [.pointer (some ⟨p, 0, none⟩)] w fun v w' => v = .int .i64 ((2 * n : Nat) : Int) ∧ Blk w' p 78 [.int .i64 ((n + 1 : Nat) : Int), sv, mv] ∧ Tch (one p) w w' := by
  have hF : Tch (one p) w w := Tch.refl _ _
  refine enter Try.func51 rfl rfl ?_
  refine W_seq ?_
  refine W_region (by kernel_rfl) ?_
  refine sg [(2, .int .i64 0)] (by kernel_rfl) ?_
  refine op_nil ?_
  refine W_seq ?_
  refine W_region (by kernel_rfl) ?_
  refine sg [(4, .pointer (some ⟨p, 0, none⟩)), (5, .pointer (some ⟨p, 0, none⟩)), (6, .pointer (some ⟨p, 0, none⟩))] (by kernel_rfl) ?_
  refine st (by rfl) (S_val (v := .int .i64 ((n : Nat) : Int)) (R_load (v := .int .i64 ((n : Nat) : Int)) (by kernel_rfl) (by kernel_rfl) ((hP.cell 0).trans rfl)) ?_)
  refine sg [(8, .int .i64 (IntKind.i64.wrap (((n : Nat) : Int) * 2 ^ 1)))] (by kernel_rfl) ?_
  rw [show IntKind.i64.wrap (((n : Nat) : Int) * 2 ^ 1) = ((n : Nat) : Int) * 2 ^ 1 from wrap_i64 (by omega) (by omega)]
  refine fixR (y := ((2 * n : Nat) : Int)) (by omega) ?_
  refine sg [(3, .int .i64 ((2 * n : Nat) : Int))] (by kernel_rfl) ?_
  refine op_nil ?_
  refine W_seq ?_
  refine W_region (by kernel_rfl) ?_
  refine sg [(9, .pointer (some ⟨p, 0, none⟩)), (10, .pointer (some ⟨p, 0, none⟩)), (11, .pointer (some ⟨p, 0, none⟩))] (by kernel_rfl) ?_
  refine st (by rfl) (S_val (v := .int .i64 ((n : Nat) : Int)) (R_load (v := .int .i64 ((n : Nat) : Int)) (by kernel_rfl) (by kernel_rfl) ((hP.cell 0).trans rfl)) ?_)
  refine sg [(13, .int .i64 (IntKind.i64.wrap (((n : Nat) : Int) + 1)))] (by kernel_rfl) ?_
  rw [show IntKind.i64.wrap (((n : Nat) : Int) + 1) = ((n : Nat) : Int) + 1 from wrap_i64 (by omega) (by omega)]
  refine fixR (y := ((n + 1 : Nat) : Int)) (by omega) ?_
  refine sg [(14, .pointer (some ⟨p, 0, none⟩)), (15, .pointer (some ⟨p, 0, none⟩))] (by kernel_rfl) ?_
  refine st (by rfl) (S_store (b := p) (j := 0) (v := .int .i64 ((n + 1 : Nat) : Int)) (by kernel_rfl) (by kernel_rfl) (by kernel_rfl) (by rfl) hP (by simp) fun w1 hT2 hs3 hP' => ?_)
  have hF := Tch.trans hF hT2 (fun _ _ e => e) (fun _ _ e => e)
  replace hP : Blk w1 p 78 [.int .i64 ((n + 1 : Nat) : Int), sv, mv] := hP'
  refine op_nil ?_
  refine W_seq ?_
  refine W_fg [(0, .pointer (some ⟨p, 0, none⟩)), (2, .int .i64 0), (3, .int .i64 ((2 * n : Nat) : Int))] (by kernel_rfl) fun ρ => ?_
  refine W_region (by kernel_rfl) ?_
  refine sg [(16, .int .i64 ((2 * n : Nat) : Int)), (2, .int .i64 ((2 * n : Nat) : Int))] (by kernel_rfl) ?_
  refine op_nil ?_
  refine W_ret ?_
  exact ⟨_, Res_of (v := .int .i64 ((2 * n : Nat) : Int)) (by kernel_rfl), ⟨rfl, hP, hF⟩⟩

theorem low_fresh (F : Nat → Prop) (p n : Nat) (cs : List (List Nat)) (M : Value → Value → Prop) (w : World) (h : Low F w p n cs M) (hn : n ≤ 68719476736) : Ret Try.prog 51 [.pointer (some ⟨p, 0, none⟩)] w fun v w' => v = .int .i64 ((2 * n : Nat) : Int) ∧ Low F w' p (n + 1) cs M ∧ Mv F F w w' := by
  obtain ⟨A, cp, mb, Lv, hP, hO, hM, hC, fp, fm, fA, hl⟩ := h
  refine (fresh_ok p n _ _ w hP hn).mono fun v w' ⟨e, hP', T⟩ => ⟨e, ⟨A, cp, mb, Lv, hP', hO.tch T (fun c hc e => hO.blk_ne hP (by decide) c hc e), hM.tch T (fun e => hM.ne hP e), hC.tch T (fun g l _ hb e => hb.ne hP (by decide) e), fp, fm, fA, fun b hb => Nat.lt_of_lt_of_le (hl b hb) T.size⟩, .same (T.weaken (fun b _ e => by have : b = p := e; rw [this]; exact fp))⟩
theorem var_i (x : Int) (w : World) (h0 : 0 ≤ x) (hx : x ≤ 9223372036854775807) : Ret Try.prog 77 [.int .i64 x] w fun v w' => v = .int .i64 (x / 2) ∧ Tch N0 w w' := by
  obtain ⟨n, rfl⟩ : ∃ n : Nat, x = n := ⟨x.toNat, by omega⟩
  exact (var_ok n w (by omega)).mono fun v w' ⟨e, T⟩ => ⟨by rw [e]; congr 1, T⟩
/-- No literal of so many variables. -/
def badI (n : Nat) (x : Int) : Bool := decide (x < 0 ∨ (n : Int) ≤ x / 2)
def badB (n : Nat) (l : List Int) : Bool := l.any (badI n)
theorem gmemI {l : List Int} {i : Nat} (h : i < l.length) : l.getD i 0 ∈ l := by
  rw [List.getD_eq_getElem?_getD, List.getElem?_eq_getElem h]; exact List.getElem_mem h
theorem badB_t {n : Nat} {l : List Int} {i : Nat} (hi : i < l.length) (h : l.getD i 0 < 0 ∨ (n : Int) ≤ l.getD i 0 / 2) : true = badB n l := by
  symm; unfold badB; rw [List.any_eq_true]
  exact ⟨_, gmemI hi, by unfold badI; exact decide_eq_true h⟩
theorem badB_f {n : Nat} {l : List Int} {i : Nat} (hi : l.length ≤ i) (h : ∀ j, j < i → ¬ (l.getD j 0 < 0 ∨ (n : Int) ≤ l.getD j 0 / 2)) : false = badB n l := by
  symm; unfold badB; rw [List.any_eq_false]
  intro x hx
  obtain ⟨j, hj, e⟩ := List.getElem_of_mem hx
  have e2 : l.getD j 0 = x := by rw [List.getD_eq_getElem?_getD, List.getElem?_eq_getElem hj]; exact e
  have := h j (by omega)
  rw [e2] at this
  unfold badI
  simpa using this

set_option maxRecDepth 100000 in
theorem bad_ok (p n g mm : Nat) (sv mv : Value) (l : List Int) (w : World) (hP : Blk w p 78 [.int .i64 ((n : Nat) : Int), sv, mv]) (hG : Blk w g 3 (ints .i64 l)) (hm : l.length = mm) (hm2 : mm ≤ 1099511627776) (hl : ∀ x, x ∈ l → x ≤ 9223372036854775807) : Ret Try.prog 53 [.pointer (some ⟨p, 0, none⟩), .slice (some ⟨g, 0, none⟩) mm mm] w fun v w' => v = .bool (badB n l) ∧ Tch N0 w w' := by
  refine enter Try.func53 rfl rfl ?_
  refine W_seq ?_
  refine W_region (by kernel_rfl) ?_
  refine sg [(4, .bool false)] (by kernel_rfl) ?_
  refine op_nil ?_
  refine W_seq ?_
  refine W_seq ?_
  refine W_region (by kernel_rfl) ?_
  refine sg [(7, .slice (some ⟨g, 0, none⟩) mm mm), (8, .int .i64 (mm : Int)), (9, .int .i64 0)] (by kernel_rfl) ?_
  refine op_nil ?_
  refine W_block ?_
  refine W_loop (fun m ρ w' => ∃ (i : Nat) (ρ0 : Env), ρ = updL ρ0 [(0, .pointer (some ⟨p, 0, none⟩)), (7, .slice (some ⟨g, 0, none⟩) mm mm), (8, .int .i64 (mm : Int)), (9, .int .i64 ((i : Nat) : Int))] ∧ (i ≤ mm) ∧ (∀ j, j < i → ¬ (l.getD j 0 < 0 ∨ (n : Int) ≤ l.getD j 0 / 2)) ∧ Tch N0 w w' ∧ Blk w' p 78 [.int .i64 ((n : Nat) : Int), sv, mv] ∧ Blk w' (g) 3 (ints .i64 l) ∧ m = mm - i) (m := mm - 0) ?_ ?_
  · refine ⟨0, _, updL_self (by kernel_rfl), by omega, by intro j h; omega, Tch.refl _ _, hP, hG, rfl⟩
  · rintro m ρ w1 ⟨i, ρ, rfl, hi, hb, hT0, hP, hG, rfl⟩
    have hli : i < mm → l.getD i 0 ≤ 9223372036854775807 := fun h => hl _ (gmemI (by omega))
    refine W_seq ?_
    refine W_region (by kernel_rfl) ?_
    refine sg [(10, .bool (decide (((i : Nat) : Int) < (mm : Int))))] (by kernel_rfl) ?_
    refine op_nil ?_
    refine W_seq ?_
    refine W_cond (decide (((i : Nat) : Int) < (mm : Int))) (by kernel_rfl) (by kernel_rfl) (fun hc2 => ?_) (fun hc2 => ?_)
    · replace hc2 : ((i : Nat) : Int) < (mm : Int) := (of_decide_eq_true hc2)
      refine W_skip ?_
      refine W_seq ?_
      refine W_block ?_
      refine W_seq ?_
      refine W_region (by kernel_rfl) ?_
      refine stv (v := .pointer (some ⟨g, i, none⟩)) (by rfl) (R_index0 (b := g) (len := mm) (cap := mm) (k := .i64) (i := ((i : Nat) : Int)) (e := 3) i (by kernel_rfl) (by kernel_rfl) (by kernel_rfl) (by kernel_rfl) rfl (by first | omega | (simp only [List.length_set, List.length_map]; omega))) ?_
      refine st (by rfl) (S_val (v := .int .i64 (l.getD i 0)) (R_load (v := .int .i64 (l.getD i 0)) (by kernel_rfl) (by kernel_rfl) ((hG.cell _).trans (ints_at .i64 _ (by first | omega | (simp only [List.length_set, List.length_map]; omega))))) ?_)
      refine sg [(6, .int .i64 (l.getD i 0))] (by kernel_rfl) ?_
      refine op_nil ?_
      refine W_seq ?_
      refine W_draw (fun w' => Blk w' p 78 [.int .i64 ((n : Nat) : Int), sv, mv] ∧ Blk w' (g) 3 (ints .i64 l)) (by kernel_rfl) (by kernel_rfl) (by kernel_rfl) fun w3 hT4 hh5 => ?_
      have hT0 := hT0.t0 hT4
      have hP := hP.tch0 hT4
      have hG := hG.tch0 hT4
      refine dtk [0, 1, 2, 3, 4, 5, 6] #[true, true, true, true, true, true, true, false, false, false, false, false, false, false, false] [(13, .pointer (some ⟨p, 0, none⟩)), (14, .bool false), (15, .bool false), (16, .int .i64 (l.getD i 0)), (17, .bool (decide (l.getD i 0 < 0))), (18, .bool (decide (l.getD i 0 < 0))), (19, .bool (decide (l.getD i 0 < 0)))] ⟨hP, hG⟩ (by kernel_rfl) ?_
      cases hb6 : decide (l.getD i 0 < 0)
      · replace hb6 : 0 ≤ l.getD i 0 := (Int.not_lt.1 (of_decide_eq_false hb6))
        refine dtk [7, 9, 10, 11] #[true, true, true, true, true, true, true, true, false, true, true, true, false, false, false] [(20, .int .i64 (l.getD i 0)), (22, .pointer (some ⟨p, 0, none⟩)), (23, .pointer (some ⟨p, 0, none⟩)), (24, .pointer (some ⟨p, 0, none⟩))] ⟨hP, hG⟩ (by kernel_rfl) ?_
        refine d_val (v := .int .i64 ((n : Nat) : Int)) 12 (by rfl) (by kernel_rfl) (by kernel_rfl) (by kernel_rfl) (fun w' hs => by obtain ⟨hP, hG⟩ := hs; exact R_load (v := .int .i64 ((n : Nat) : Int)) (by kernel_rfl) (by kernel_rfl) ((hP.cell 0).trans rfl)) ⟨hP, hG⟩ ?_
        refine d_one 8 (by kernel_rfl) (by rfl) (by kernel_rfl) (S_call (args := [.int .i64 (l.getD i 0)]) (by kernel_rfl) (var_i (l.getD i 0) _ (by omega) (by omega)) ?_)
        rintro _ w7 ⟨rfl, hT8⟩
        have hT0 := hT0.t0 hT8
        have hP := hP.tch0 hT8
        have hG := hG.tch0 hT8
        refine ⟨⟨hP, hG⟩, ?_⟩
        refine dtk [13, 14] #[true, true, true, true, true, true, true, true, true, true, true, true, true, true, true] [(26, .bool (decide ((l.getD i 0) / 2 ≥ ((n : Nat) : Int)))), (27, .bool (decide ((l.getD i 0) / 2 ≥ ((n : Nat) : Int))))] ⟨hP, hG⟩ (by kernel_rfl) ?_
        refine d_done (by kernel_rfl) ?_
        refine W_cond (decide ((l.getD i 0) / 2 ≥ ((n : Nat) : Int))) (by kernel_rfl) (by kernel_rfl) (fun hc9 => ?_) (fun hc9 => ?_)
        · replace hc9 : ((n : Nat) : Int) ≤ (l.getD i 0) / 2 := (of_decide_eq_true hc9)
          refine W_seq ?_
          refine W_fg [(0, .pointer (some ⟨p, 0, none⟩)), (6, .int .i64 (l.getD i 0)), (7, .slice (some ⟨g, 0, none⟩) mm mm), (8, .int .i64 (mm : Int)), (9, .int .i64 ((i : Nat) : Int)), (10, .bool (decide (((i : Nat) : Int) < (mm : Int)))), (27, .bool (decide ((l.getD i 0) / 2 ≥ ((n : Nat) : Int))))] (by kernel_rfl) fun ρ => ?_
          refine W_region (by kernel_rfl) ?_
          refine sg [(4, .bool true)] (by kernel_rfl) ?_
          refine op_nil ?_
          refine W_ret ?_
          exact ⟨_, Res_of (v := .bool true) (by kernel_rfl), ⟨congrArg Value.bool (by first | exact badB_t (i := i) (by omega) (by omega) | exact badB_f (by omega) hb), hT0⟩⟩
        · replace hc9 : (l.getD i 0) / 2 < ((n : Nat) : Int) := (Int.not_le.1 (of_decide_eq_false hc9))
          refine W_skip ?_
          refine W_fg [(0, .pointer (some ⟨p, 0, none⟩)), (6, .int .i64 (l.getD i 0)), (7, .slice (some ⟨g, 0, none⟩) mm mm), (8, .int .i64 (mm : Int)), (9, .int .i64 ((i : Nat) : Int)), (10, .bool (decide (((i : Nat) : Int) < (mm : Int)))), (27, .bool (decide ((l.getD i 0) / 2 ≥ ((n : Nat) : Int))))] (by kernel_rfl) fun ρ => ?_
          refine W_region (by kernel_rfl) ?_
          refine sg [(28, .int .i64 (IntKind.i64.wrap (((i : Nat) : Int) + 1)))] (by kernel_rfl) ?_
          rw [show IntKind.i64.wrap (((i : Nat) : Int) + 1) = ((i : Nat) : Int) + 1 from wrap_i64 (by omega) (by omega)]
          refine sg [(9, .int .i64 (((i : Nat) : Int) + 1))] (by kernel_rfl) ?_
          refine op_nil ?_
          refine ⟨_, ?_, i + 1, _, updL_self (by kernel_rfl), ?_, ?_, hT0, hP, hG, rfl⟩
          · omega
          · omega
          · intro j hj; by_cases e : j = i; (subst e; omega); exact hb j (by omega)
      · replace hb6 : l.getD i 0 < 0 := (of_decide_eq_true hb6)
        refine dtk [7, 9, 8, 10, 11, 12, 13, 14] #[true, true, true, true, true, true, true, true, true, true, true, true, true, true, true] [(20, undef), (22, undef), (21, undef), (23, undef), (24, undef), (25, undef), (26, undef), (27, .bool true)] ⟨hP, hG⟩ (by kernel_rfl) ?_
        refine d_done (by kernel_rfl) ?_
        refine W_cond true (by kernel_rfl) (by kernel_rfl) (fun _ => ?_) (fun h => nomatch h)
        refine W_seq ?_
        refine W_fg [(0, .pointer (some ⟨p, 0, none⟩)), (6, .int .i64 (l.getD i 0)), (7, .slice (some ⟨g, 0, none⟩) mm mm), (8, .int .i64 (mm : Int)), (9, .int .i64 ((i : Nat) : Int)), (10, .bool (decide (((i : Nat) : Int) < (mm : Int)))), (27, .bool true)] (by kernel_rfl) fun ρ => ?_
        refine W_region (by kernel_rfl) ?_
        refine sg [(4, .bool true)] (by kernel_rfl) ?_
        refine op_nil ?_
        refine W_ret ?_
        exact ⟨_, Res_of (v := .bool true) (by kernel_rfl), ⟨congrArg Value.bool (by first | exact badB_t (i := i) (by omega) (by omega) | exact badB_f (by omega) hb), hT0⟩⟩
    · replace hc2 : (mm : Int) ≤ ((i : Nat) : Int) := (Int.not_lt.1 (of_decide_eq_false hc2))
      refine W_exit ?_
      refine X_hit ?_
      refine W_seq ?_
      refine W_region (by kernel_rfl) ?_
      refine sg [(4, .bool false)] (by kernel_rfl) ?_
      refine op_nil ?_
      refine W_ret ?_
      exact ⟨_, Res_of (v := .bool false) (by kernel_rfl), ⟨congrArg Value.bool (by first | exact badB_t (i := i) (by omega) (by omega) | exact badB_f (by omega) hb), hT0⟩⟩

set_option maxRecDepth 100000 in
theorem bad_nil (g mm : Nat) (l : List Int) (w : World) (hG : Blk w g 3 (ints .i64 l)) (hm : l.length = mm) (hm2 : mm ≤ 1099511627776) (h0 : 0 < mm) : Ret Try.prog 53 [.pointer none, .slice (some ⟨g, 0, none⟩) mm mm] w fun v w' => v = .bool true ∧ Tch N0 w w' := by
  refine enter Try.func53 rfl rfl ?_
  refine W_seq ?_
  refine W_region (by kernel_rfl) ?_
  refine sg [(4, .bool false)] (by kernel_rfl) ?_
  refine op_nil ?_
  refine W_seq ?_
  refine W_seq ?_
  refine W_region (by kernel_rfl) ?_
  refine sg [(7, .slice (some ⟨g, 0, none⟩) mm mm), (8, .int .i64 (mm : Int)), (9, .int .i64 0)] (by kernel_rfl) ?_
  refine op_nil ?_
  refine W_block ?_
  refine W_loop (fun m ρ w' => ∃ (i : Nat) (ρ0 : Env), ρ = updL ρ0 [(0, .pointer none), (7, .slice (some ⟨g, 0, none⟩) mm mm), (8, .int .i64 (mm : Int)), (9, .int .i64 ((i : Nat) : Int))] ∧ (i = 0) ∧ Tch N0 w w' ∧ Blk w' (g) 3 (ints .i64 l) ∧ m = mm - i) (m := mm - 0) ?_ ?_
  · refine ⟨0, _, updL_self (by kernel_rfl), rfl, Tch.refl _ _, hG, rfl⟩
  · rintro m ρ w1 ⟨i, ρ, rfl, hi, hT0, hG, rfl⟩
    refine W_seq ?_
    refine W_region (by kernel_rfl) ?_
    refine sg [(10, .bool (decide (((i : Nat) : Int) < (mm : Int))))] (by kernel_rfl) ?_
    refine op_nil ?_
    refine W_seq ?_
    refine W_cond (decide (((i : Nat) : Int) < (mm : Int))) (by kernel_rfl) (by kernel_rfl) (fun hc2 => ?_) (fun hc2 => ?_)
    · replace hc2 : ((i : Nat) : Int) < (mm : Int) := (of_decide_eq_true hc2)
      refine W_skip ?_
      refine W_seq ?_
      refine W_block ?_
      refine W_seq ?_
      refine W_region (by kernel_rfl) ?_
      refine stv (v := .pointer (some ⟨g, i, none⟩)) (by rfl) (R_index0 (b := g) (len := mm) (cap := mm) (k := .i64) (i := ((i : Nat) : Int)) (e := 3) i (by kernel_rfl) (by kernel_rfl) (by kernel_rfl) (by kernel_rfl) rfl (by first | omega | (simp only [List.length_set, List.length_map]; omega))) ?_
      refine st (by rfl) (S_val (v := .int .i64 (l.getD i 0)) (R_load (v := .int .i64 (l.getD i 0)) (by kernel_rfl) (by kernel_rfl) ((hG.cell _).trans (ints_at .i64 _ (by first | omega | (simp only [List.length_set, List.length_map]; omega))))) ?_)
      refine sg [(6, .int .i64 (l.getD i 0))] (by kernel_rfl) ?_
      refine op_nil ?_
      refine W_seq ?_
      refine W_draw (fun w' => Blk w' (g) 3 (ints .i64 l)) (by kernel_rfl) (by kernel_rfl) (by kernel_rfl) fun w3 hT4 hh5 => ?_
      have hT0 := hT0.t0 hT4
      have hG := hG.tch0 hT4
      refine dtk [0, 1, 2, 3, 4, 5, 6, 7, 9, 8, 10, 11, 12, 13, 14] #[true, true, true, true, true, true, true, true, true, true, true, true, true, true, true] [(13, .pointer none), (14, .bool true), (15, .bool true), (16, undef), (17, undef), (18, .bool true), (19, .bool true), (20, undef), (22, undef), (21, undef), (23, undef), (24, undef), (25, undef), (26, undef), (27, .bool true)] hG (by kernel_rfl) ?_
      refine d_done (by kernel_rfl) ?_
      refine W_cond true (by kernel_rfl) (by kernel_rfl) (fun _ => ?_) (fun h => nomatch h)
      refine W_seq ?_
      refine W_fg [(0, .pointer none), (6, .int .i64 (l.getD i 0)), (7, .slice (some ⟨g, 0, none⟩) mm mm), (8, .int .i64 (mm : Int)), (9, .int .i64 ((i : Nat) : Int)), (10, .bool (decide (((i : Nat) : Int) < (mm : Int)))), (27, .bool true)] (by kernel_rfl) fun ρ => ?_
      refine W_region (by kernel_rfl) ?_
      refine sg [(4, .bool true)] (by kernel_rfl) ?_
      refine op_nil ?_
      refine W_ret ?_
      exact ⟨_, Res_of (v := .bool true) (by kernel_rfl), ⟨rfl, hT0⟩⟩
    · replace hc2 : (mm : Int) ≤ ((i : Nat) : Int) := (Int.not_lt.1 (of_decide_eq_false hc2))
      exfalso; omega

end Go.Proofs.YtnlecdpiccgdpaaV

set_option linter.unusedVariables false
set_option linter.unusedSimpArgs false
namespace Go.Proofs.YtnlecdpiccgdpaaV
open Go Go.RowKit Go.Proofs

set_option maxRecDepth 100000 in
theorem add_ok (F : Nat → Prop) (r p nv g mm : Nat) (c : List Nat) (cs : List (List Nat)) (M : Value → Value → Prop) (w : World) (hR : Blk w r 25 [.pointer (some ⟨p, 0, none⟩)]) (hL : Low F w p nv cs M) (hGc : Blk w g 3 (nats c)) (hm : c.length = mm) (hk : cs.length ≤ 4398046511104) : Ret Try.prog 78 [.slice (some ⟨g, 0, none⟩) mm mm, .pointer (some ⟨r, 0, none⟩)] w fun v w' => v = .tuple #[] ∧ ∃ F', Low F' w' p nv (cs ++ [c]) M ∧ Tch F w w' ∧ (∀ b, F b → F' b) ∧ ∀ b, F' b → F b ∨ b = g ∨ w.heap.size ≤ b := by
  obtain ⟨A, cp, mb, Lv, hP, hO, hM, hC, fp, fm, fA, hlt⟩ := hL
  have hF : Tch F w w := Tch.refl _ _
  have hmc : mm = c.length := hm.symm
  refine enter Try.func78 rfl rfl ?_
  refine W_drawT (fun w' => Blk w' r 25 [.pointer (some ⟨p, 0, none⟩)]) 10 (by kernel_rfl) (by kernel_rfl) (by kernel_rfl) fun w1 hT2 hh3 => ?_
  have hP := hP.tch0 hT2
  have hR := hR.tch0 hT2
  have hO := hO.tch0 hT2
  have hM := hM.tch0 hT2
  have hC := hC.tch0 hT2
  have hGc := hGc.tch0 hT2
  have hF := hF.then0 hT2
  refine ttk [5] #[false, false, false, false, false, true, false, false, false, false, false] [(8, .slice (some ⟨g, 0, none⟩) mm mm)] hR (by kernel_rfl) ?_
  refine t_val (v := .pointer (some ⟨p, 0, none⟩)) 0 (by kernel_rfl) (by rfl) (by kernel_rfl) (by kernel_rfl) (by kernel_rfl) (fun w' hs => by have hR := hs; exact R_load (v := .pointer (some ⟨p, 0, none⟩)) (by kernel_rfl) (by kernel_rfl) ((hR.cell 0).trans rfl)) hR ?_
  refine t_val (v := .pointer (some ⟨p, 0, none⟩)) 1 (by kernel_rfl) (by rfl) (by kernel_rfl) (by kernel_rfl) (by kernel_rfl) (fun w' hs => by have hR := hs; exact R_load (v := .pointer (some ⟨p, 0, none⟩)) (by kernel_rfl) (by kernel_rfl) ((hR.cell 0).trans rfl)) hR ?_
  refine ttk [2, 3] #[true, true, true, true, false, true, false, false, false, false, false] [(5, .pointer (some ⟨p, 0, none⟩)), (6, .pointer (some ⟨p, 1, none⟩))] hR (by kernel_rfl) ?_
  refine t_two 4 6 (by kernel_rfl) (by rfl) (by rfl) (by kernel_rfl) (by kernel_rfl) ?_ ?_
  · refine (S_val (v := .slice A cs.length cp) (R_load (v := .slice A cs.length cp) (by kernel_rfl) (by kernel_rfl) ((hP.cell 1).trans rfl)) ?_)
    refine ⟨fun _ => hR, ?_⟩
    refine t_one 6 (by kernel_rfl) (by rfl) (by kernel_rfl) (S_new (v := .slice (some ⟨w1.heap.size, 0, none⟩) 1 1) (ob := .cells #[.slice (some ⟨g, 0, none⟩) mm mm] 27) (by kernel_rfl) fun w4 hT5 hs6 hB7 => ?_)
    replace hB7 : Blk w4 (w1.heap.size) 27 [.slice (some ⟨g, 0, none⟩) mm mm] := hB7
    have hP := hP.tch0 hT5
    have hR := hR.tch0 hT5
    have hO := hO.tch0 hT5
    have hM := hM.tch0 hT5
    have hC := hC.tch0 hT5
    have hGc := hGc.tch0 hT5
    have hF := hF.then0 hT5
    refine ⟨fun _ => hR, ?_⟩
    refine t_one 7 (by kernel_rfl) (by rfl) (by kernel_rfl) (S_append_at 39 27 (.slice none 0 0) 24 (n := cs.length) (m := 1) (v := .slice A cs.length cp) (cells := Lv) (news := [.slice (some ⟨g, 0, none⟩) mm mm]) (b := w1.heap.size) (off := 0) (c := 1) (by kernel_rfl) (by rfl) (by kernel_rfl) (by kernel_rfl) (by kernel_rfl) hO (by rfl) (fun k u hk => by rw [Nat.zero_add, hB7.cell]; exact hk) (by simp [oneV]) (by simp only [maxLen]; omega) (by omega) (by omega) fun g2 cp2 sp2 w8 hG2 hl2 hc1 hc2 hg2 hT9 => ?_)
    have fg : F g2 ∨ w.heap.size ≤ g2 := hg2.imp (fun e => fA _ e) (fun e => by have := hF.size; omega)
    have hP := hP.tch hT9 (fun e => hO.blk_ne hP (by decide) _ e rfl)
    have hR := hR.tch hT9 (fun e => hO.blk_ne hR (by decide) _ e rfl)
    have hM := hM.tch hT9 (fun e => hO.ne_map hM _ e rfl)
    have hC := hC.tch hT9 (fun q l _ hb e => hO.blk_ne hb (by decide) _ e rfl)
    have hGc := hGc.tch hT9 (fun e => hO.blk_ne hGc (by decide) _ e rfl)
    have hF := Tch.trans hF hT9 (fun _ _ e => e) (fun c _ e => fA c e)
    refine ⟨fun _ => hR, ?_⟩
    refine t_one 8 (by kernel_rfl) (by rfl) (by kernel_rfl) (S_val (v := .pointer (some ⟨p, 0, none⟩)) (plainV_run (by kernel_rfl) _) ?_)
    refine ⟨fun _ => hR, ?_⟩
    refine ttk [9] #[true, true, true, true, true, true, true, true, true, true, false] [(12, .pointer (some ⟨p, 1, none⟩))] hR (by kernel_rfl) ?_
    refine t_one 10 (by kernel_rfl) (by rfl) (by kernel_rfl) (S_store (b := p) (j := 1) (v := .slice (some ⟨g2, 0, none⟩) (cs.length + 1) cp2) (by kernel_rfl) (by kernel_rfl) (by kernel_rfl) (by rfl) hP (by simp) fun w10 hT11 hs12 hP' => ?_)
    have hR := hR.tch hT11 (hR.ne hP (by decide))
    have hM := hM.tch hT11 (fun e => hM.ne hP e)
    have hC := hC.tch hT11 (fun q l _ hb e => hb.ne hP (by decide) e)
    have hGc := hGc.tch hT11 (fun e => hGc.ne hP (by decide) e)
    have hF := Tch.trans hF hT11 (fun _ _ e => e) (fun c _ e => by have : c = p := e; rw [this]; exact fp)
    have hG2 := hG2.tch hT11 (fun e => hG2.ne hP (by decide) e)
    replace hP : Blk w10 p 78 [.int .i64 ((nv : Nat) : Int), .slice (some ⟨g2, 0, none⟩) (cs.length + 1) cp2, .map (some mb)] := hP'
    refine ⟨fun h => absurd h (by decide), ?_⟩
    refine t_done (by kernel_rfl) ?_
    refine ⟨_, Res_of (v := .tuple #[]) (by kernel_rfl), ?_⟩
    refine ⟨rfl, fun b => F b ∨ b = g ∨ b = g2, ?_, hF, fun b hb => .inl hb, ?_⟩
    · subst hm
      refine ⟨some ⟨g2, 0, none⟩, cp2, mb, Lv ++ [.slice (some ⟨g, 0, none⟩) c.length c.length], ?_, ?_, hM, (hC.up (fun b hb => .inl hb)).push (.inr (.inl rfl)) hGc, .inl fp, .inl fm, ?_, ?_⟩
      · rw [List.length_append]; exact hP
      · rw [List.length_append]; exact hG2.own1 (by rw [List.length_append, hC.1]; rfl) hl2 (by simpa using hc1) hc2
      · intro c' e; exact .inr (.inr (by injection e with e; exact e.symm))
      · rintro b (hb | rfl | rfl)
        · exact Nat.lt_of_lt_of_le (hlt b hb) hF.size
        · exact hGc.lt
        · exact hG2.lt
    · rintro b (hb | rfl | rfl)
      · exact .inl hb
      · exact .inr (.inl rfl)
      · exact fg.elim .inl (fun e => .inr (.inr e))
  · refine (S_new (v := .slice (some ⟨w1.heap.size, 0, none⟩) 1 1) (ob := .cells #[.slice (some ⟨g, 0, none⟩) mm mm] 27) (by kernel_rfl) fun w13 hT14 hs15 hB16 => ?_)
    replace hB16 : Blk w13 (w1.heap.size) 27 [.slice (some ⟨g, 0, none⟩) mm mm] := hB16
    have hP := hP.tch0 hT14
    have hR := hR.tch0 hT14
    have hO := hO.tch0 hT14
    have hM := hM.tch0 hT14
    have hC := hC.tch0 hT14
    have hGc := hGc.tch0 hT14
    have hF := hF.then0 hT14
    refine ⟨fun _ => hR, ?_⟩
    refine t_one 4 (by kernel_rfl) (by rfl) (by kernel_rfl) (S_val (v := .slice A cs.length cp) (R_load (v := .slice A cs.length cp) (by kernel_rfl) (by kernel_rfl) ((hP.cell 1).trans rfl)) ?_)
    refine ⟨fun _ => hR, ?_⟩
    refine t_one 7 (by kernel_rfl) (by rfl) (by kernel_rfl) (S_append_at 39 27 (.slice none 0 0) 24 (n := cs.length) (m := 1) (v := .slice A cs.length cp) (cells := Lv) (news := [.slice (some ⟨g, 0, none⟩) mm mm]) (b := w1.heap.size) (off := 0) (c := 1) (by kernel_rfl) (by rfl) (by kernel_rfl) (by kernel_rfl) (by kernel_rfl) hO (by rfl) (fun k u hk => by rw [Nat.zero_add, hB16.cell]; exact hk) (by simp [oneV]) (by simp only [maxLen]; omega) (by omega) (by omega) fun g2 cp2 sp2 w17 hG2 hl2 hc1 hc2 hg2 hT18 => ?_)
    have fg : F g2 ∨ w.heap.size ≤ g2 := hg2.imp (fun e => fA _ e) (fun e => by have := hF.size; omega)
    have hP := hP.tch hT18 (fun e => hO.blk_ne hP (by decide) _ e rfl)
    have hR := hR.tch hT18 (fun e => hO.blk_ne hR (by decide) _ e rfl)
    have hM := hM.tch hT18 (fun e => hO.ne_map hM _ e rfl)
    have hC := hC.tch hT18 (fun q l _ hb e => hO.blk_ne hb (by decide) _ e rfl)
    have hGc := hGc.tch hT18 (fun e => hO.blk_ne hGc (by decide) _ e rfl)
    have hF := Tch.trans hF hT18 (fun _ _ e => e) (fun c _ e => fA c e)
    refine ⟨fun _ => hR, ?_⟩
    refine t_one 8 (by kernel_rfl) (by rfl) (by kernel_rfl) (S_val (v := .pointer (some ⟨p, 0, none⟩)) (plainV_run (by kernel_rfl) _) ?_)
    refine ⟨fun _ => hR, ?_⟩
    refine ttk [9] #[true, true, true, true, true, true, true, true, true, true, false] [(12, .pointer (some ⟨p, 1, none⟩))] hR (by kernel_rfl) ?_
    refine t_one 10 (by kernel_rfl) (by rfl) (by kernel_rfl) (S_store (b := p) (j := 1) (v := .slice (some ⟨g2, 0, none⟩) (cs.length + 1) cp2) (by kernel_rfl) (by kernel_rfl) (by kernel_rfl) (by rfl) hP (by simp) fun w19 hT20 hs21 hP' => ?_)
    have hR := hR.tch hT20 (hR.ne hP (by decide))
    have hM := hM.tch hT20 (fun e => hM.ne hP e)
    have hC := hC.tch hT20 (fun q l _ hb e => hb.ne hP (by decide) e)
    have hGc := hGc.tch hT20 (fun e => hGc.ne hP (by decide) e)
    have hF := Tch.trans hF hT20 (fun _ _ e => e) (fun c _ e => by have : c = p := e; rw [this]; exact fp)
    have hG2 := hG2.tch hT20 (fun e => hG2.ne hP (by decide) e)
    replace hP : Blk w19 p 78 [.int .i64 ((nv : Nat) : Int), .slice (some ⟨g2, 0, none⟩) (cs.length + 1) cp2, .map (some mb)] := hP'
    refine ⟨fun h => absurd h (by decide), ?_⟩
    refine t_done (by kernel_rfl) ?_
    refine ⟨_, Res_of (v := .tuple #[]) (by kernel_rfl), ?_⟩
    refine ⟨rfl, fun b => F b ∨ b = g ∨ b = g2, ?_, hF, fun b hb => .inl hb, ?_⟩
    · subst hm
      refine ⟨some ⟨g2, 0, none⟩, cp2, mb, Lv ++ [.slice (some ⟨g, 0, none⟩) c.length c.length], ?_, ?_, hM, (hC.up (fun b hb => .inl hb)).push (.inr (.inl rfl)) hGc, .inl fp, .inl fm, ?_, ?_⟩
      · rw [List.length_append]; exact hP
      · rw [List.length_append]; exact hG2.own1 (by rw [List.length_append, hC.1]; rfl) hl2 (by simpa using hc1) hc2
      · intro c' e; exact .inr (.inr (by injection e with e; exact e.symm))
      · rintro b (hb | rfl | rfl)
        · exact Nat.lt_of_lt_of_le (hlt b hb) hF.size
        · exact hGc.lt
        · exact hG2.lt
    · rintro b (hb | rfl | rfl)
      · exact .inl hb
      · exact .inr (.inl rfl)
      · exact fg.elim .inl (fun e => .inr (.inr e))

end Go.Proofs.YtnlecdpiccgdpaaV
