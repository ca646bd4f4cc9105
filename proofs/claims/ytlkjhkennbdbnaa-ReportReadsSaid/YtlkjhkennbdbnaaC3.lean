/- Walks of functions of the program and of the document's texts. The conditions stand with each theorem. -/
import Derived.Test.YtlkjhkennbdbnaaJRrepo61x1
import Derived.Test.YtlkjhkennbdbnaaJRrepo61x1
import Derived.Test.YtlkjhkennbdbnaaProg
import Derived.Test.YtlkjhkennbdbnaaC2
set_option linter.unusedVariables false
set_option linter.unusedSimpArgs false
namespace Go.Proofs.YtlkjhkennbdbnaaV
open Go Go.RowKit Go.Proofs

def pl : Nat → Tx → Tx
 | 0, t => t
 | j + 1, t => p1r (pl j t)
def pc (j : Nat) (t : Tx) : List Co := (List.range j).map (fun i => p1c (pl i t))
theorem pc_step (j : Nat) (t : Tx) : pc (j + 1) t = pc j t ++ [p1c (pl j t)] := by simp [pc, List.range_succ]
def okN (n : Nat) (t : Tx) : Bool := (List.range n).all (fun i => p1b (pl i t))
theorem okN_f {n j : Nat} {t : Tx} (hj : j < n) (h : p1b (pl j t) = false) : okN n t = false := by
 unfold okN
 rw [List.all_eq_false]
 exact ⟨j, List.mem_range.2 hj, by rw [h]; decide⟩
theorem okN_t {n : Nat} {t : Tx} (h : ∀ i, i < n → p1b (pl i t) = true) : ¬ okN n t = false := by
 unfold okN
 rw [List.all_eq_false]
 rintro ⟨i, hi, h2⟩
 exact h2 (h i (List.mem_range.1 hi))
def hV (s : Tx) : Nat := (s.getD 0 0).toNat
def hE (s : Tx) : Nat := (s.getD 1 0).toNat
def hS (s : Tx) : Nat := vl ((s.drop 2).take 4)
def hU (s : Tx) : Nat := rn 4 (s.drop 6)
def hR (s : Tx) : Tx := rr 4 (s.drop 6)
def hN (s : Tx) : Nat := rn 2 (hR s)
def hT (s : Tx) : Tx := rr 2 (hR s)
def code (s : Tx) : Int := if 0 < s.length ∧ 3 < hV s then 4 else if s.length < 6 then 6 else if 1073741824 < hS s then 4 else if s.length - 6 < 4 then 6 else if 1073741824 < hU s then 4 else if (hR s).length < 2 then 6 else if okN (hN s) (hT s) = false then 6 else if 0 < (pl (hN s) (hT s)).length then 5 else 0
def rV (s : Tx) : Int := if code s = 0 then ((hV s : Nat) : Int) else 0
def rE (s : Tx) : Int := if code s = 0 then ((hE s : Nat) : Int) else 0
def rS (s : Tx) : Int := if code s = 0 then ((hS s : Nat) : Int) else 0
def rU (s : Tx) : Int := if code s = 0 then ((hU s : Nat) : Int) else 0
def rL (s : Tx) : List Co := if code s = 0 then pc (hN s) (hT s) else []
theorem rep_f {s : Tx} (h : code s ≠ 0) : rV s = 0 ∧ rE s = 0 ∧ rS s = 0 ∧ rU s = 0 ∧ rL s = [] := by
 unfold rV rE rS rU rL
 rw [if_neg h, if_neg h, if_neg h, if_neg h, if_neg h]; exact ⟨rfl, rfl, rfl, rfl, rfl⟩
theorem rep_t {s : Tx} (h : code s = 0) : rV s = ((hV s : Nat) : Int) ∧ rE s = ((hE s : Nat) : Int) ∧ rS s = ((hS s : Nat) : Int) ∧ rU s = ((hU s : Nat) : Int) ∧ rL s = pc (hN s) (hT s) := by
 unfold rV rE rS rU rL
 rw [if_pos h, if_pos h, if_pos h, if_pos h, if_pos h]; exact ⟨rfl, rfl, rfl, rfl, rfl⟩
abbrev NumR (k : Nat) (t : Tx) (a : Nat) (b : Tx) (w : World) : Prop := Ret Try.prog 37 [.string (bsT t), .int .i64 ((k : Nat) : Int)] w fun v w' => v = .tuple #[.int .i64 ((a : Nat) : Int), .string (bsT b), .bool (rb k t)] ∧ Tch N0 w w'
/-- Tests in a row that grows: each reads, and lies apart from the row. -/
def TsE (w : World) (L : List T6) (Y : Value) (base : Nat) : Prop := ∀ t, t ∈ L → TmW w t ∧ ∀ b, t.has b → base ≤ b ∧ Y.ownBlock ≠ some b
theorem TsE.tch0 {w w' : World} {L : List T6} {Y : Value} {base : Nat} (h : TsE w L Y base) (k : Tch N0 w w') : TsE w' L Y base := fun t ht => ⟨(h t ht).1.tch0 k, (h t ht).2⟩
theorem TsE.st {S : Nat → Prop} {w w' : World} {L : List T6} {Y : Value} {base : Nat} (h : TsE w L Y base) (k : Tch S w w') (hs : ∀ b, base ≤ b → ¬ S b) : TsE w' L Y base :=
 fun t ht => ⟨(h t ht).1.tch k (fun b hb => hs b ((h t ht).2 b hb).1), (h t ht).2⟩
theorem TsE.st2 {S : Nat → Prop} {w w' : World} {L : List T6} {Y : Value} {base : Nat} (h : TsE w L Y base) (k : Tch S w w') (hs : ∀ t, t ∈ L → ∀ b, t.has b → ¬ S b) : TsE w' L Y base :=
 fun t ht => ⟨(h t ht).1.tch k (fun b hb => hs t ht b hb), (h t ht).2⟩
theorem TsE.app {w w' : World} {L : List T6} {A A2 : Option Addr} {n n2 cp cp2 base : Nat} {u : T6} (h : TsE w L (.slice A n cp) base) (k : Tch (ownS (.slice A n cp)) w w') (hw : ∀ c, (Value.slice A2 n2 cp2).ownBlock = some c → (Value.slice A n cp).ownBlock = some c ∨ c = w.heap.size)
  (hu : TmW w u) (hf : ∀ b, u.has b → base ≤ b ∧ (Value.slice A n cp).ownBlock ≠ some b) : TsE w' (L ++ [u]) (.slice A2 n2 cp2) base := by
 have key : ∀ t, TmW w t → (∀ b, t.has b → base ≤ b ∧ (Value.slice A n cp).ownBlock ≠ some b) → TmW w' t ∧ ∀ b, t.has b → base ≤ b ∧ (Value.slice A2 n2 cp2).ownBlock ≠ some b := fun t h1 h2 =>
  ⟨h1.tch k (fun b hb e => (h2 b hb).2 e), fun b hb => ⟨(h2 b hb).1, fun e => (hw b e).elim (h2 b hb).2 (fun q => by have := h1.lt b hb; omega)⟩⟩
 intro t ht
 rcases List.mem_append.1 ht with q | q
 ·
  exact key t (h t q).1 (h t q).2
 ·
  rw [List.mem_singleton] at q
  subst q; exact key t hu hf
/-- The blocks of a row of tests lie between. -/
def TsB (A : Option Addr) (l : List T6) (k m : Nat) : Prop := (0 < l.length → ∀ b o s, A = some ⟨b, o, s⟩ → k ≤ b ∧ b < m) ∧ ∀ t, t ∈ l → ∀ b, t.has b → k ≤ b ∧ b < m
theorem TsB.nil_ (A : Option Addr) (k m : Nat) : TsB A [] k m := ⟨fun h => absurd h (by decide), fun t h => by cases h⟩
theorem TsB.of {w : World} {A : Option Addr} {n cp base k : Nat} {cells : List Value} {L : List T6} {Y : Value} (hO : Own w 0 43 6 (.slice A n cp) n cells) (hE : TsE w L Y base) (nB : ∀ c, (Value.slice A n cp).ownBlock = some c → base ≤ c) (hk : k ≤ base) : TsB A L k w.heap.size := by
 refine ⟨fun h b o s e => ?_, fun t ht b hb => ⟨Nat.le_trans hk ((hE t ht).2 b hb).1, (hE t ht).1.lt b hb⟩⟩
 subst e
 exact ⟨Nat.le_trans hk (nB b rfl), hO.lt b rfl⟩
theorem TsW.tchB {S : Nat → Prop} {w w' : World} {A : Option Addr} {l : List T6} {k m : Nat} (h : TsW w A l) (hb : TsB A l k m) (T : Tch S w w') (hs : ∀ b, k ≤ b → b < m → ¬ S b) : TsW w' A l :=
 ⟨h.rd.tchB T (fun hn b o s e => hs b (hb.1 hn b o s e).1 (hb.1 hn b o s e).2), fun t ht => (h.el t ht).tch T (fun b hx => hs b (hb.2 t ht b hx).1 (hb.2 t ht b hx).2)⟩
theorem TsB.up {A : Option Addr} {l : List T6} {k k2 m m2 : Nat} (h : TsB A l k m) (h1 : k2 ≤ k) (h2 : m ≤ m2) : TsB A l k2 m2 :=
 ⟨fun hn b o s e => ⟨Nat.le_trans h1 (h.1 hn b o s e).1, Nat.lt_of_lt_of_le (h.1 hn b o s e).2 h2⟩, fun t ht b hb => ⟨Nat.le_trans h1 (h.2 t ht b hb).1, Nat.lt_of_lt_of_le (h.2 t ht b hb).2 h2⟩⟩
theorem tcs_snoc (L : List T6) (u : T6) : tcs (L ++ [u]) = tcs L ++ tc u := by rw [tcs_app]; simp [tcs]
theorem cores_snoc (L : List T6) (u : T6) : cores (L ++ [u]) = cores L ++ [core u] := by simp [cores]
theorem p1r_le (t : Tx) : (p1r t).length ≤ t.length := by
 unfold p1r
 split
 ·
  simp only [p1e, p1d, List.length_drop]
  have : (p1a t).length ≤ t.length := by unfold p1a rr; split <;> simp
  omega
 ·
  simp
theorem pl_le (t : Tx) : ∀ j, (pl j t).length ≤ t.length
 | 0 => Nat.le_refl _
 | j + 1 => Nat.le_trans (p1r_le _) (pl_le t j)
theorem hT_le (s : Tx) : (hT s).length ≤ s.length := by
 have h1 : (hR s).length ≤ s.length := by unfold hR rr; split <;> simp
 have h2 : (hT s).length ≤ (hR s).length := by unfold hT rr; split <;> simp
 omega

set_option maxRecDepth 100000 in
set_option maxHeartbeats 2000000 in
theorem rread_ok (s : Tx) (w : World) (hs : s.length ≤ 8200) : Ret Try.prog 15 [.string (bsT s)] w fun v w' => ∃ A c l, v = .tuple #[.agg #[.int .i64 (rV s), .int .i64 (rE s), .slice A l.length c, .int .i64 (rS s), .int .i64 (rU s)], .int .i64 (code s)] ∧ TsW w' A l ∧ cores l = rL s ∧ TsB A l w.heap.size w'.heap.size ∧ Tch N0 w w' := by
 have hv0 : hV s = (s.getD 0 0).toNat := rfl
 have hd6 : (s.drop 6).length = s.length - 6 := List.length_drop
 have hv4 := vl_4 (s.drop 2)
 have hg0 := (s.getD 0 0).toNat_lt
 have hg1 := (s.getD 1 0).toNat_lt
 have hsS : hS s = vl ((s.drop 2).take 4) := rfl
 refine enter Try.func15 rfl rfl ?_
 refine zQ ?_
 refine st (by rfl) (S_new (v := .pointer (some ⟨w.heap.size, 0, none⟩)) (ob := .cells #[.int .i64 0, .int .i64 0, .slice none 0 0, .int .i64 0, .int .i64 0] 25) (by kernel_rfl) fun w1 hT2 hs3 hB4 => ?_)
 replace hB4 : Blk w1 (w.heap.size) 25 [.int .i64 0, .int .i64 0, .slice none 0 0, .int .i64 0, .int .i64 0] := hB4
 have hT0 := hT2
 refine zS [(3, .int .i64 0)] ?_
 refine op_nil ?_
 refine zQ ?_
 have hz9 := hT0.size
 have lt10 := hB4.lt
 refine st (by rfl) (S_new (v := .pointer (some ⟨w1.heap.size, 0, none⟩)) (ob := .cells #[.int .i64 0, .int .i64 0, .slice none 0 0, .int .i64 0, .int .i64 0] 25) (by kernel_rfl) fun w5 hT6 hs7 hB8 => ?_)
 replace hB8 : Blk w5 (w1.heap.size) 25 [.int .i64 0, .int .i64 0, .slice none 0 0, .int .i64 0, .int .i64 0] := hB8
 have hT0 := hT0.t0 hT6
 have hB4 := hB4.tch0 hT6
 refine op_nil ?_
 refine W_seq ?_
 refine zQ ?_
 refine zS [(12, .string (bsT s)), (13, .int .i64 ((s.length : Nat) : Int)), (14, .bool (decide (((s.length : Nat) : Int) > 0))), (15, .bool (decide (((s.length : Nat) : Int) > 0)))] ?_
 cases hb11 : decide (((s.length : Nat) : Int) > 0)
 ·
  replace hb11 : ((s.length : Nat) : Int) ≤ 0 := (Int.not_lt.1 (of_decide_eq_false hb11))
  refine zS [(16, undef), (17, undef), (18, undef), (19, .bool false)] ?_
  refine zO false (fun h => nomatch h) (fun _ => ?_)
  refine W_skip ?_
  refine W_seq ?_
  refine W_seq ?_
  refine zF [(0, .string (bsT s)), (2, .pointer (some ⟨w.heap.size, 0, none⟩)), (3, .int .i64 0), (4, .pointer (some ⟨w1.heap.size, 0, none⟩)), (19, .bool false)] fun ρ => ?_
  refine zR ?_
  refine zS [(21, .string (bsT s)), (22, .int .i64 ((s.length : Nat) : Int)), (23, .bool (decide (((s.length : Nat) : Int) < 6)))] ?_
  refine zO (decide (((s.length : Nat) : Int) < 6)) (fun hc12 => ?_) (fun hc12 => ?_)
  ·
   replace hc12 : ((s.length : Nat) : Int) < 6 := (of_decide_eq_true hc12)
   refine zQ ?_
   refine zS [(24, .agg #[.int .i64 0, .int .i64 0, .slice none 0 0, .int .i64 0, .int .i64 0])] ?_
   refine st (by rfl) (S_storeA (b := w.heap.size) (j := 0) (cs := [.int .i64 0, .int .i64 0, .slice none 0 0, .int .i64 0, .int .i64 0]) (by kernel_rfl) (by kernel_rfl) (by kernel_rfl) (by simp [oneV]) hB4 (by simp) fun w13 hT14 hs15 hB4' => ?_)
   have hT0 := (hT0).then hT14 (fun c e => by have : c = w.heap.size := e; omega)
   have hB8 := hB8.tch hT14 (fun e => by have : w1.heap.size = w.heap.size := e; omega)
   replace hB4 : Blk w13 w.heap.size 25 [.int .i64 0, .int .i64 0, .slice none 0 0, .int .i64 0, .int .i64 0] := hB4'
   refine zS [(3, .int .i64 6)] ?_
   refine op_nil ?_
   refine W_ret ?_
   refine ⟨_, Res_cell1 (b := w.heap.size) (cs := [.int .i64 0, .int .i64 0, .slice none 0 0, .int .i64 0, .int .i64 0]) (by rfl) (by kernel_rfl) (by kernel_rfl) (by kernel_rfl) hB4 (by kernel_rfl) (by kernel_rfl), ?_⟩
   have hc : code s = 6 := by unfold code; first | (exfalso; omega) | (rw [if_pos (by omega)]) | (rw [if_neg (by omega), if_pos (by omega)]) | (rw [if_neg (by omega), if_neg (by omega), if_pos (by omega)]) | (rw [if_neg (by omega), if_neg (by omega), if_neg (by omega), if_pos (by omega)]) | (rw [if_neg (by omega), if_neg (by omega), if_neg (by omega), if_neg (by omega), if_pos (by omega)]) | (rw [if_neg (by omega), if_neg (by omega), if_neg (by omega), if_neg (by omega), if_neg (by omega), if_pos (by omega)]) | (rw [if_neg (by omega), if_neg (by omega), if_neg (by omega), if_neg (by omega), if_neg (by omega), if_neg (by omega), if_pos (okN_f (j := j) (by omega) (by assumption))]) | (rw [if_neg (by omega), if_neg (by omega), if_neg (by omega), if_neg (by omega), if_neg (by omega), if_neg (by omega), if_neg (okN_t (fun i h => hokj i (by omega))), if_pos (by rw [show hN s = j by omega]; omega)]) | (rw [if_neg (by omega), if_neg (by omega), if_neg (by omega), if_neg (by omega), if_neg (by omega), if_neg (by omega), if_neg (okN_t (fun i h => hokj i (by omega))), if_neg (by rw [show hN s = j by omega]; omega)])
   have hr := rep_f (s := s) (by rw [hc]; decide)
   refine ⟨none, 0, [], by rw [hc, hr.1, hr.2.1, hr.2.2.1, hr.2.2.2.1]; rfl, TsW.nil_ _ _, hr.2.2.2.2.symm, TsB.nil_ _ _ _, hT0⟩
  ·
   replace hc12 : 6 ≤ ((s.length : Nat) : Int) := (Int.not_lt.1 (of_decide_eq_false hc12))
   refine W_skip ?_
   refine zQ ?_
   refine zS [(25, .string (bsT s))] ?_
   refine stv (v := .int .u8 (((s.getD 0 0).toNat : Nat) : Int)) (by rfl) (R_six (a := s) (k := .i64) (i := 0) 0 (by kernel_rfl) (by kernel_rfl) (by kernel_rfl) rfl (by omega)) ?_
   refine zS [(27, .int .i64 (IntKind.i64.wrap (((s.getD 0 0).toNat : Nat) : Int)))] ?_
   rw [show IntKind.i64.wrap (((s.getD 0 0).toNat : Nat) : Int) = (((s.getD 0 0).toNat : Nat) : Int) from wrap_i64 (by omega) (by omega)]
   refine fixR (y := ((hV s : Nat) : Int)) (by rfl) ?_
   refine zS [(28, .pointer (some ⟨w1.heap.size, 0, none⟩))] ?_
   refine st (by rfl) (S_store (b := w1.heap.size) (j := 0) (v := .int .i64 ((hV s : Nat) : Int)) (by kernel_rfl) (by kernel_rfl) (by kernel_rfl) (by rfl) hB8 (by simp) fun w16 hT17 hs18 hB8' => ?_)
   have hT0 := (hT0).then hT17 (fun c e => by have : c = w1.heap.size := e; omega)
   have hB4 := hB4.tch hT17 (fun e => by have : w.heap.size = w1.heap.size := e; omega)
   replace hB8 : Blk w16 w1.heap.size 25 [.int .i64 ((hV s : Nat) : Int), .int .i64 0, .slice none 0 0, .int .i64 0, .int .i64 0] := hB8'
   refine op_nil ?_
   refine zQ ?_
   refine zS [(29, .string (bsT s))] ?_
   refine stv (v := .int .u8 (((s.getD 1 0).toNat : Nat) : Int)) (by rfl) (R_six (a := s) (k := .i64) (i := 1) 1 (by kernel_rfl) (by kernel_rfl) (by kernel_rfl) rfl (by omega)) ?_
   refine zS [(31, .int .i64 (IntKind.i64.wrap (((s.getD 1 0).toNat : Nat) : Int)))] ?_
   rw [show IntKind.i64.wrap (((s.getD 1 0).toNat : Nat) : Int) = (((s.getD 1 0).toNat : Nat) : Int) from wrap_i64 (by omega) (by omega)]
   refine fixR (y := ((hE s : Nat) : Int)) (by rfl) ?_
   refine zS [(32, .pointer (some ⟨w1.heap.size, 1, none⟩))] ?_
   refine st (by rfl) (S_store (b := w1.heap.size) (j := 1) (v := .int .i64 ((hE s : Nat) : Int)) (by kernel_rfl) (by kernel_rfl) (by kernel_rfl) (by rfl) hB8 (by simp) fun w19 hT20 hs21 hB8' => ?_)
   have hT0 := (hT0).then hT20 (fun c e => by have : c = w1.heap.size := e; omega)
   have hB4 := hB4.tch hT20 (fun e => by have : w.heap.size = w1.heap.size := e; omega)
   replace hB8 : Blk w19 w1.heap.size 25 [.int .i64 ((hV s : Nat) : Int), .int .i64 ((hE s : Nat) : Int), .slice none 0 0, .int .i64 0, .int .i64 0] := hB8'
   refine op_nil ?_
   refine W_seq ?_
   refine zF [(0, .string (bsT s)), (2, .pointer (some ⟨w.heap.size, 0, none⟩)), (3, .int .i64 0), (4, .pointer (some ⟨w1.heap.size, 0, none⟩)), (19, .bool false), (23, .bool (decide (((s.length : Nat) : Int) < 6)))] fun ρ => ?_
   refine zR ?_
   refine zS [(33, .string (bsT s))] ?_
   refine stv (v := .string (bsT ((s.drop 2).take 4))) (by rfl) (R_sslLH (a := s) (i1 := 2) (i2 := 6) 2 6 (by kernel_rfl) (by kernel_rfl) (by kernel_rfl) (by kernel_rfl) rfl rfl (by omega) (by omega)) ?_
   refine zC (val_ok ((s.drop 2).take 4) _ (by first | omega | (simp only [List.length_take, List.length_drop]; omega))) ?_
   rintro _ w22 ⟨rfl, hT23⟩
   have hT0 := hT0.t0 hT23
   have hB4 := hB4.tch0 hT23
   have hB8 := hB8.tch0 hT23
   refine zS [(36, .int .i64 (IntKind.i64.wrap ((vl ((s.drop 2).take 4) : Nat) : Int)))] ?_
   rw [show IntKind.i64.wrap ((vl ((s.drop 2).take 4) : Nat) : Int) = ((vl ((s.drop 2).take 4) : Nat) : Int) from wrap_i64 (by omega) (by omega)]
   refine fixR (y := ((hS s : Nat) : Int)) (by first | rfl | omega) ?_
   refine zS [(37, .pointer (some ⟨w1.heap.size, 3, none⟩))] ?_
   refine st (by rfl) (S_store (b := w1.heap.size) (j := 3) (v := .int .i64 ((hS s : Nat) : Int)) (by kernel_rfl) (by kernel_rfl) (by kernel_rfl) (by rfl) hB8 (by simp) fun w24 hT25 hs26 hB8' => ?_)
   have hT0 := (hT0).then hT25 (fun c e => by have : c = w1.heap.size := e; omega)
   have hB4 := hB4.tch hT25 (fun e => by have : w.heap.size = w1.heap.size := e; omega)
   replace hB8 : Blk w24 w1.heap.size 25 [.int .i64 ((hV s : Nat) : Int), .int .i64 ((hE s : Nat) : Int), .slice none 0 0, .int .i64 ((hS s : Nat) : Int), .int .i64 0] := hB8'
   refine op_nil ?_
   refine W_seq ?_
   refine zQ ?_
   refine zS [(38, .pointer (some ⟨w1.heap.size, 3, none⟩))] ?_
   refine zL (.int .i64 ((hS s : Nat) : Int)) ((hB8.cell 3).trans rfl) ?_
   refine zS [(40, .bool (decide (((hS s : Nat) : Int) > 1073741824)))] ?_
   refine zO (decide (((hS s : Nat) : Int) > 1073741824)) (fun hc27 => ?_) (fun hc27 => ?_)
   ·
    replace hc27 : 1073741824 < ((hS s : Nat) : Int) := (of_decide_eq_true hc27)
    refine W_seq ?_
    refine zF [(0, .string (bsT s)), (2, .pointer (some ⟨w.heap.size, 0, none⟩)), (3, .int .i64 0), (4, .pointer (some ⟨w1.heap.size, 0, none⟩)), (19, .bool false), (23, .bool (decide (((s.length : Nat) : Int) < 6))), (40, .bool (decide (((hS s : Nat) : Int) > 1073741824)))] fun ρ => ?_
    refine zR ?_
    refine zS [(41, .agg #[.int .i64 0, .int .i64 0, .slice none 0 0, .int .i64 0, .int .i64 0])] ?_
    refine st (by rfl) (S_storeA (b := w.heap.size) (j := 0) (cs := [.int .i64 0, .int .i64 0, .slice none 0 0, .int .i64 0, .int .i64 0]) (by kernel_rfl) (by kernel_rfl) (by kernel_rfl) (by simp [oneV]) hB4 (by simp) fun w28 hT29 hs30 hB4' => ?_)
    have hT0 := (hT0).then hT29 (fun c e => by have : c = w.heap.size := e; omega)
    have hB8 := hB8.tch hT29 (fun e => by have : w1.heap.size = w.heap.size := e; omega)
    replace hB4 : Blk w28 w.heap.size 25 [.int .i64 0, .int .i64 0, .slice none 0 0, .int .i64 0, .int .i64 0] := hB4'
    refine zS [(3, .int .i64 4)] ?_
    refine op_nil ?_
    refine W_ret ?_
    refine ⟨_, Res_cell1 (b := w.heap.size) (cs := [.int .i64 0, .int .i64 0, .slice none 0 0, .int .i64 0, .int .i64 0]) (by rfl) (by kernel_rfl) (by kernel_rfl) (by kernel_rfl) hB4 (by kernel_rfl) (by kernel_rfl), ?_⟩
    have hc : code s = 4 := by unfold code; first | (exfalso; omega) | (rw [if_pos (by omega)]) | (rw [if_neg (by omega), if_pos (by omega)]) | (rw [if_neg (by omega), if_neg (by omega), if_pos (by omega)]) | (rw [if_neg (by omega), if_neg (by omega), if_neg (by omega), if_pos (by omega)]) | (rw [if_neg (by omega), if_neg (by omega), if_neg (by omega), if_neg (by omega), if_pos (by omega)]) | (rw [if_neg (by omega), if_neg (by omega), if_neg (by omega), if_neg (by omega), if_neg (by omega), if_pos (by omega)]) | (rw [if_neg (by omega), if_neg (by omega), if_neg (by omega), if_neg (by omega), if_neg (by omega), if_neg (by omega), if_pos (okN_f (j := j) (by omega) (by assumption))]) | (rw [if_neg (by omega), if_neg (by omega), if_neg (by omega), if_neg (by omega), if_neg (by omega), if_neg (by omega), if_neg (okN_t (fun i h => hokj i (by omega))), if_pos (by rw [show hN s = j by omega]; omega)]) | (rw [if_neg (by omega), if_neg (by omega), if_neg (by omega), if_neg (by omega), if_neg (by omega), if_neg (by omega), if_neg (okN_t (fun i h => hokj i (by omega))), if_neg (by rw [show hN s = j by omega]; omega)])
    have hr := rep_f (s := s) (by rw [hc]; decide)
    refine ⟨none, 0, [], by rw [hc, hr.1, hr.2.1, hr.2.2.1, hr.2.2.2.1]; rfl, TsW.nil_ _ _, hr.2.2.2.2.symm, TsB.nil_ _ _ _, hT0⟩
   ·
    replace hc27 : ((hS s : Nat) : Int) ≤ 1073741824 := (Int.not_lt.1 (of_decide_eq_false hc27))
    refine W_skip ?_
    refine W_seq ?_
    refine zF [(0, .string (bsT s)), (2, .pointer (some ⟨w.heap.size, 0, none⟩)), (3, .int .i64 0), (4, .pointer (some ⟨w1.heap.size, 0, none⟩)), (19, .bool false), (23, .bool (decide (((s.length : Nat) : Int) < 6))), (40, .bool (decide (((hS s : Nat) : Int) > 1073741824)))] fun ρ => ?_
    refine zR ?_
    refine zS [(43, .string (bsT s))] ?_
    refine stv (v := .string (bsT (s.drop 6))) (by rfl) (R_sslL (a := s) (i := 6) 6 (by kernel_rfl) (by kernel_rfl) (by kernel_rfl) rfl (by omega)) ?_
    have hq4 : hU s < 4294967296 := rn_4 _
    refine zC ((show NumR 4 (s.drop 6) (hU s) (hR s) _ from rnum4_ok (s.drop 6) _)) ?_
    rintro _ w31 ⟨rfl, hT32⟩
    have hT0 := hT0.t0 hT32
    have hB4 := hB4.tch0 hT32
    have hB8 := hB8.tch0 hT32
    refine zS [(42, .tuple #[.int .i64 ((hU s : Nat) : Int), .string (bsT (hR s)), .bool (rb 4 (s.drop 6))]), (46, .int .i64 ((hU s : Nat) : Int)), (47, .string (bsT (hR s))), (48, .bool (rb 4 (s.drop 6))), (5, .int .i64 ((hU s : Nat) : Int)), (0, .string (bsT (hR s))), (6, .bool (rb 4 (s.drop 6)))] ?_
    refine op_nil ?_
    refine W_seq ?_
    refine W_seq ?_
    refine zF [(0, .string (bsT (hR s))), (2, .pointer (some ⟨w.heap.size, 0, none⟩)), (3, .int .i64 0), (4, .pointer (some ⟨w1.heap.size, 0, none⟩)), (5, .int .i64 ((hU s : Nat) : Int)), (6, .bool (rb 4 (s.drop 6))), (19, .bool false), (23, .bool (decide (((s.length : Nat) : Int) < 6))), (40, .bool (decide (((hS s : Nat) : Int) > 1073741824)))] fun ρ => ?_
    refine zR ?_
    refine zS [(49, .bool (rb 4 (s.drop 6))), (50, .bool (!(rb 4 (s.drop 6))))] ?_
    refine zO (!(rb 4 (s.drop 6))) (fun hc33 => ?_) (fun hc33 => ?_)
    ·
     replace hc33 : List.length (s.drop 6) < 4 := (Nat.lt_of_not_le (of_decide_eq_false (not_t hc33)))
     refine zQ ?_
     refine zS [(51, .agg #[.int .i64 0, .int .i64 0, .slice none 0 0, .int .i64 0, .int .i64 0])] ?_
     refine st (by rfl) (S_storeA (b := w.heap.size) (j := 0) (cs := [.int .i64 0, .int .i64 0, .slice none 0 0, .int .i64 0, .int .i64 0]) (by kernel_rfl) (by kernel_rfl) (by kernel_rfl) (by simp [oneV]) hB4 (by simp) fun w34 hT35 hs36 hB4' => ?_)
     have hT0 := (hT0).then hT35 (fun c e => by have : c = w.heap.size := e; omega)
     have hB8 := hB8.tch hT35 (fun e => by have : w1.heap.size = w.heap.size := e; omega)
     replace hB4 : Blk w34 w.heap.size 25 [.int .i64 0, .int .i64 0, .slice none 0 0, .int .i64 0, .int .i64 0] := hB4'
     refine zS [(3, .int .i64 6)] ?_
     refine op_nil ?_
     refine W_ret ?_
     refine ⟨_, Res_cell1 (b := w.heap.size) (cs := [.int .i64 0, .int .i64 0, .slice none 0 0, .int .i64 0, .int .i64 0]) (by rfl) (by kernel_rfl) (by kernel_rfl) (by kernel_rfl) hB4 (by kernel_rfl) (by kernel_rfl), ?_⟩
     have hc : code s = 6 := by unfold code; first | (exfalso; omega) | (rw [if_pos (by omega)]) | (rw [if_neg (by omega), if_pos (by omega)]) | (rw [if_neg (by omega), if_neg (by omega), if_pos (by omega)]) | (rw [if_neg (by omega), if_neg (by omega), if_neg (by omega), if_pos (by omega)]) | (rw [if_neg (by omega), if_neg (by omega), if_neg (by omega), if_neg (by omega), if_pos (by omega)]) | (rw [if_neg (by omega), if_neg (by omega), if_neg (by omega), if_neg (by omega), if_neg (by omega), if_pos (by omega)]) | (rw [if_neg (by omega), if_neg (by omega), if_neg (by omega), if_neg (by omega), if_neg (by omega), if_neg (by omega), if_pos (okN_f (j := j) (by omega) (by assumption))]) | (rw [if_neg (by omega), if_neg (by omega), if_neg (by omega), if_neg (by omega), if_neg (by omega), if_neg (by omega), if_neg (okN_t (fun i h => hokj i (by omega))), if_pos (by rw [show hN s = j by omega]; omega)]) | (rw [if_neg (by omega), if_neg (by omega), if_neg (by omega), if_neg (by omega), if_neg (by omega), if_neg (by omega), if_neg (okN_t (fun i h => hokj i (by omega))), if_neg (by rw [show hN s = j by omega]; omega)])
     have hr := rep_f (s := s) (by rw [hc]; decide)
     refine ⟨none, 0, [], by rw [hc, hr.1, hr.2.1, hr.2.2.1, hr.2.2.2.1]; rfl, TsW.nil_ _ _, hr.2.2.2.2.symm, TsB.nil_ _ _ _, hT0⟩
    ·
     replace hc33 : 4 ≤ List.length (s.drop 6) := (of_decide_eq_true (not_f hc33))
     refine W_skip ?_
     refine W_seq ?_
     refine zQ ?_
     refine zS [(52, .int .i64 ((hU s : Nat) : Int)), (53, .bool (decide (((hU s : Nat) : Int) > 1073741824)))] ?_
     refine zO (decide (((hU s : Nat) : Int) > 1073741824)) (fun hc37 => ?_) (fun hc37 => ?_)
     ·
      replace hc37 : 1073741824 < ((hU s : Nat) : Int) := (of_decide_eq_true hc37)
      refine zQ ?_
      refine zS [(54, .agg #[.int .i64 0, .int .i64 0, .slice none 0 0, .int .i64 0, .int .i64 0])] ?_
      refine st (by rfl) (S_storeA (b := w.heap.size) (j := 0) (cs := [.int .i64 0, .int .i64 0, .slice none 0 0, .int .i64 0, .int .i64 0]) (by kernel_rfl) (by kernel_rfl) (by kernel_rfl) (by simp [oneV]) hB4 (by simp) fun w38 hT39 hs40 hB4' => ?_)
      have hT0 := (hT0).then hT39 (fun c e => by have : c = w.heap.size := e; omega)
      have hB8 := hB8.tch hT39 (fun e => by have : w1.heap.size = w.heap.size := e; omega)
      replace hB4 : Blk w38 w.heap.size 25 [.int .i64 0, .int .i64 0, .slice none 0 0, .int .i64 0, .int .i64 0] := hB4'
      refine zS [(3, .int .i64 4)] ?_
      refine op_nil ?_
      refine W_ret ?_
      refine ⟨_, Res_cell1 (b := w.heap.size) (cs := [.int .i64 0, .int .i64 0, .slice none 0 0, .int .i64 0, .int .i64 0]) (by rfl) (by kernel_rfl) (by kernel_rfl) (by kernel_rfl) hB4 (by kernel_rfl) (by kernel_rfl), ?_⟩
      have hc : code s = 4 := by unfold code; first | (exfalso; omega) | (rw [if_pos (by omega)]) | (rw [if_neg (by omega), if_pos (by omega)]) | (rw [if_neg (by omega), if_neg (by omega), if_pos (by omega)]) | (rw [if_neg (by omega), if_neg (by omega), if_neg (by omega), if_pos (by omega)]) | (rw [if_neg (by omega), if_neg (by omega), if_neg (by omega), if_neg (by omega), if_pos (by omega)]) | (rw [if_neg (by omega), if_neg (by omega), if_neg (by omega), if_neg (by omega), if_neg (by omega), if_pos (by omega)]) | (rw [if_neg (by omega), if_neg (by omega), if_neg (by omega), if_neg (by omega), if_neg (by omega), if_neg (by omega), if_pos (okN_f (j := j) (by omega) (by assumption))]) | (rw [if_neg (by omega), if_neg (by omega), if_neg (by omega), if_neg (by omega), if_neg (by omega), if_neg (by omega), if_neg (okN_t (fun i h => hokj i (by omega))), if_pos (by rw [show hN s = j by omega]; omega)]) | (rw [if_neg (by omega), if_neg (by omega), if_neg (by omega), if_neg (by omega), if_neg (by omega), if_neg (by omega), if_neg (okN_t (fun i h => hokj i (by omega))), if_neg (by rw [show hN s = j by omega]; omega)])
      have hr := rep_f (s := s) (by rw [hc]; decide)
      refine ⟨none, 0, [], by rw [hc, hr.1, hr.2.1, hr.2.2.1, hr.2.2.2.1]; rfl, TsW.nil_ _ _, hr.2.2.2.2.symm, TsB.nil_ _ _ _, hT0⟩
     ·
      replace hc37 : ((hU s : Nat) : Int) ≤ 1073741824 := (Int.not_lt.1 (of_decide_eq_false hc37))
      refine W_skip ?_
      refine zQ ?_
      refine zS [(55, .int .i64 ((hU s : Nat) : Int)), (56, .pointer (some ⟨w1.heap.size, 4, none⟩))] ?_
      refine st (by rfl) (S_store (b := w1.heap.size) (j := 4) (v := .int .i64 ((hU s : Nat) : Int)) (by kernel_rfl) (by kernel_rfl) (by kernel_rfl) (by rfl) hB8 (by simp) fun w41 hT42 hs43 hB8' => ?_)
      have hT0 := (hT0).then hT42 (fun c e => by have : c = w1.heap.size := e; omega)
      have hB4 := hB4.tch hT42 (fun e => by have : w.heap.size = w1.heap.size := e; omega)
      replace hB8 : Blk w41 w1.heap.size 25 [.int .i64 ((hV s : Nat) : Int), .int .i64 ((hE s : Nat) : Int), .slice none 0 0, .int .i64 ((hS s : Nat) : Int), .int .i64 ((hU s : Nat) : Int)] := hB8'
      refine op_nil ?_
      refine zQ ?_
      refine zS [(58, .string (bsT (hR s)))] ?_
      have hq2 : hN s < 65536 := rn_2 _
      refine zC ((show NumR 2 (hR s) (hN s) (hT s) _ from rnum2_ok (hR s) _)) ?_
      rintro _ w44 ⟨rfl, hT45⟩
      have hT0 := hT0.t0 hT45
      have hB4 := hB4.tch0 hT45
      have hB8 := hB8.tch0 hT45
      refine zS [(57, .tuple #[.int .i64 ((hN s : Nat) : Int), .string (bsT (hT s)), .bool (rb 2 (hR s))]), (60, .int .i64 ((hN s : Nat) : Int)), (61, .string (bsT (hT s))), (62, .bool (rb 2 (hR s))), (7, .int .i64 ((hN s : Nat) : Int)), (0, .string (bsT (hT s))), (6, .bool (rb 2 (hR s)))] ?_
      refine op_nil ?_
      refine W_seq ?_
      refine W_seq ?_
      refine zF [(0, .string (bsT (hT s))), (2, .pointer (some ⟨w.heap.size, 0, none⟩)), (3, .int .i64 0), (4, .pointer (some ⟨w1.heap.size, 0, none⟩)), (5, .int .i64 ((hU s : Nat) : Int)), (6, .bool (rb 2 (hR s))), (7, .int .i64 ((hN s : Nat) : Int)), (19, .bool false), (23, .bool (decide (((s.length : Nat) : Int) < 6))), (40, .bool (decide (((hS s : Nat) : Int) > 1073741824))), (50, .bool (!(rb 4 (s.drop 6)))), (53, .bool (decide (((hU s : Nat) : Int) > 1073741824)))] fun ρ => ?_
      refine zR ?_
      refine zS [(63, .bool (rb 2 (hR s))), (64, .bool (!(rb 2 (hR s))))] ?_
      refine zO (!(rb 2 (hR s))) (fun hc46 => ?_) (fun hc46 => ?_)
      ·
       replace hc46 : List.length (hR s) < 2 := (Nat.lt_of_not_le (of_decide_eq_false (not_t hc46)))
       refine zQ ?_
       refine zS [(65, .agg #[.int .i64 0, .int .i64 0, .slice none 0 0, .int .i64 0, .int .i64 0])] ?_
       refine st (by rfl) (S_storeA (b := w.heap.size) (j := 0) (cs := [.int .i64 0, .int .i64 0, .slice none 0 0, .int .i64 0, .int .i64 0]) (by kernel_rfl) (by kernel_rfl) (by kernel_rfl) (by simp [oneV]) hB4 (by simp) fun w47 hT48 hs49 hB4' => ?_)
       have hT0 := (hT0).then hT48 (fun c e => by have : c = w.heap.size := e; omega)
       have hB8 := hB8.tch hT48 (fun e => by have : w1.heap.size = w.heap.size := e; omega)
       replace hB4 : Blk w47 w.heap.size 25 [.int .i64 0, .int .i64 0, .slice none 0 0, .int .i64 0, .int .i64 0] := hB4'
       refine zS [(3, .int .i64 6)] ?_
       refine op_nil ?_
       refine W_ret ?_
       refine ⟨_, Res_cell1 (b := w.heap.size) (cs := [.int .i64 0, .int .i64 0, .slice none 0 0, .int .i64 0, .int .i64 0]) (by rfl) (by kernel_rfl) (by kernel_rfl) (by kernel_rfl) hB4 (by kernel_rfl) (by kernel_rfl), ?_⟩
       have hc : code s = 6 := by unfold code; first | (exfalso; omega) | (rw [if_pos (by omega)]) | (rw [if_neg (by omega), if_pos (by omega)]) | (rw [if_neg (by omega), if_neg (by omega), if_pos (by omega)]) | (rw [if_neg (by omega), if_neg (by omega), if_neg (by omega), if_pos (by omega)]) | (rw [if_neg (by omega), if_neg (by omega), if_neg (by omega), if_neg (by omega), if_pos (by omega)]) | (rw [if_neg (by omega), if_neg (by omega), if_neg (by omega), if_neg (by omega), if_neg (by omega), if_pos (by omega)]) | (rw [if_neg (by omega), if_neg (by omega), if_neg (by omega), if_neg (by omega), if_neg (by omega), if_neg (by omega), if_pos (okN_f (j := j) (by omega) (by assumption))]) | (rw [if_neg (by omega), if_neg (by omega), if_neg (by omega), if_neg (by omega), if_neg (by omega), if_neg (by omega), if_neg (okN_t (fun i h => hokj i (by omega))), if_pos (by rw [show hN s = j by omega]; omega)]) | (rw [if_neg (by omega), if_neg (by omega), if_neg (by omega), if_neg (by omega), if_neg (by omega), if_neg (by omega), if_neg (okN_t (fun i h => hokj i (by omega))), if_neg (by rw [show hN s = j by omega]; omega)])
       have hr := rep_f (s := s) (by rw [hc]; decide)
       refine ⟨none, 0, [], by rw [hc, hr.1, hr.2.1, hr.2.2.1, hr.2.2.2.1]; rfl, TsW.nil_ _ _, hr.2.2.2.2.symm, TsB.nil_ _ _ _, hT0⟩
      ·
       replace hc46 : 2 ≤ List.length (hR s) := (of_decide_eq_true (not_f hc46))
       refine W_skip ?_
       refine W_seq ?_
       refine W_seq ?_
       have hO : Own w44 0 43 6 (.slice none 0 0) 0 (tcs []) := Own.nil_ _ _ _ _
       have nB_hO : ∀ c, (Value.slice none 0 0).ownBlock = some c → w1.heap.size + 1 ≤ c := fun c hc => by cases hc
       have hEl : TsE w44 [] (.slice none 0 0) (w1.heap.size + 1) := fun t ht => by cases ht
       have lb_hB4 := hB4.lt
       have lb_hB8 := hB8.lt
       have hzW : w1.heap.size + 1 ≤ w44.heap.size := by omega
       refine zR ?_
       refine zS [(8, .int .i64 0)] ?_
       refine op_nil ?_
       refine W_block ?_
       refine W_loop (fun m ρ w' => ∃ (B : Option Addr) (n cb j : Nat) (L : List T6) (ρ0 : Env), ρ = updL ρ0 [(0, .string (bsT (pl j (hT s)))), (2, .pointer (some ⟨w.heap.size, 0, none⟩)), (4, .pointer (some ⟨w1.heap.size, 0, none⟩)), (7, .int .i64 ((hN s : Nat) : Int)), (8, .int .i64 ((j : Nat) : Int))] ∧ (j ≤ hN s) ∧ (n = j) ∧ (L.length = j) ∧ (cores L = pc j (hT s)) ∧ (∀ i, i < j → p1b (pl i (hT s)) = true) ∧ (∀ c, (Value.slice B n cb).ownBlock = some c → w1.heap.size + 1 ≤ c) ∧ Tch N0 w w' ∧ Blk w' (w.heap.size) 25 [.int .i64 0, .int .i64 0, .slice none 0 0, .int .i64 0, .int .i64 0] ∧ Blk w' (w1.heap.size) 25 [.int .i64 ((hV s : Nat) : Int), .int .i64 ((hE s : Nat) : Int), .slice B n cb, .int .i64 ((hS s : Nat) : Int), .int .i64 ((hU s : Nat) : Int)] ∧ Own w' 0 43 6 (.slice B n cb) n (tcs L) ∧ TsE w' L (.slice B n cb) (w1.heap.size + 1) ∧ (w1.heap.size + 1 ≤ (w').heap.size) ∧ m = hN s + 1 - j) (m := hN s + 1 - 0) ?_ ?_
       ·
        refine ⟨none, 0, 0, 0, [], _, updL_self (by kernel_rfl), by omega, rfl, rfl, rfl, (fun i h => by omega), nB_hO, hT0, hB4, hB8, hO, hEl, hzW, rfl⟩
       ·
        rintro m ρ w50 ⟨B, n, cb, j, L, ρ, rfl, hj, hnj, hLj, hcL, hokj, nB_hO, hT0, hB4, hQ4, hO, hEl, hzW, rfl⟩
        refine W_seq ?_
        refine zQ ?_
        refine zS [(66, .int .i64 ((j : Nat) : Int)), (67, .int .i64 ((hN s : Nat) : Int)), (68, .bool (decide (((j : Nat) : Int) < ((hN s : Nat) : Int))))] ?_
        refine zO (decide (((j : Nat) : Int) < ((hN s : Nat) : Int))) (fun hc51 => ?_) (fun hc51 => ?_)
        ·
         replace hc51 : ((j : Nat) : Int) < ((hN s : Nat) : Int) := (of_decide_eq_true hc51)
         refine W_skip ?_
         refine W_seq ?_
         refine W_block ?_
         refine zQ ?_
         refine zS [(72, .string (bsT (pl j (hT s))))] ?_
         have lU_hO := hO.lt
         have hpl := pl_le (hT s) j
         have htl := hT_le s
         have hzU := hzW
         refine zC (rone_ok (pl j (hT s)) _ (by omega)) ?_
         rintro _ w52 ⟨u, rfl, hUm, hUc, hUf, hT53⟩
         have hT0 := hT0.t0 hT53
         have hB4 := hB4.tch0 hT53
         have hQ4 := hQ4.tch0 hT53
         have hO := hO.tch0 hT53
         have hEl := hEl.tch0 hT53
         have hzW := Nat.le_trans hzW hT53.size
         refine zS [(71, .tuple #[.agg #[.slice u.iA u.inp.length u.iC, .int .i64 u.pt, .int .i64 u.ms, .slice u.gA u.img.length u.gC, .int .i64 u.kd, .int .i64 u.cd], .string (bsT (p1r (pl j (hT s)))), .bool (p1b (pl j (hT s)))]), (74, .agg #[.slice u.iA u.inp.length u.iC, .int .i64 u.pt, .int .i64 u.ms, .slice u.gA u.img.length u.gC, .int .i64 u.kd, .int .i64 u.cd]), (75, .string (bsT (p1r (pl j (hT s))))), (76, .bool (p1b (pl j (hT s))))] ?_
         have hz58 := hT0.size
         have lt59 := hB4.lt
         have lt60 := hQ4.lt
         have lR_hO := hO.lt
         have hElt : ∀ t, t ∈ L → ∀ b, t.has b → b < w52.heap.size := fun t ht b hb => (hEl t ht).1.lt b hb
         have hUlt := hUm.lt
         refine st (by rfl) (S_new (v := .pointer (some ⟨w52.heap.size, 0, none⟩)) (ob := .cells #[.slice none 0 0, .int .i64 0, .int .i64 0, .slice none 0 0, .int .i64 0, .int .i64 0] 43) (by kernel_rfl) fun w54 hT55 hs56 hB57 => ?_)
         replace hB57 : Blk w54 (w52.heap.size) 43 [.slice none 0 0, .int .i64 0, .int .i64 0, .slice none 0 0, .int .i64 0, .int .i64 0] := hB57
         have hT0 := hT0.t0 hT55
         have hB4 := hB4.tch0 hT55
         have hQ4 := hQ4.tch0 hT55
         have hO := hO.tch0 hT55
         have hEl := hEl.tch0 hT55
         have hzW := Nat.le_trans hzW hT55.size
         have hUm := hUm.tch0 hT55
         refine st (by rfl) (S_storeA (b := w52.heap.size) (j := 0) (cs := [.slice u.iA u.inp.length u.iC, .int .i64 u.pt, .int .i64 u.ms, .slice u.gA u.img.length u.gC, .int .i64 u.kd, .int .i64 u.cd]) (by kernel_rfl) (by kernel_rfl) (by kernel_rfl) (by simp [oneV]) hB57 (by simp) fun w61 hT62 hs63 hB57' => ?_)
         have hT0 := (hT0).then hT62 (fun c e => by have : c = w52.heap.size := e; omega)
         have hB4 := hB4.tch hT62 (hB4.ne hB57 (by decide))
         have hQ4 := hQ4.tch hT62 (hQ4.ne hB57 (by decide))
         have hO := hO.tch hT62 (fun c hc e => by have h1 := lR_hO c hc; have : c = w52.heap.size := e; omega)
         have hEl := hEl.st2 hT62 (fun t ht b hb e => by have e : b = w52.heap.size := e; first | (have h1 := ((hEl t ht).2 b hb).1; omega) | (have h2 := hElt t ht b hb; omega))
         have hzW := Nat.le_trans hzW hT62.size
         have hUm := hUm.tch hT62 (fun b hb e => by have e : b = w52.heap.size := e; first | (have h1 := hUf b hb; omega) | (have h2 := hUlt b hb; omega))
         replace hB57 : Blk w61 w52.heap.size 43 [.slice u.iA u.inp.length u.iC, .int .i64 u.pt, .int .i64 u.ms, .slice u.gA u.img.length u.gC, .int .i64 u.kd, .int .i64 u.cd] := hB57'
         refine zS [(10, .string (bsT (p1r (pl j (hT s))))), (11, .bool (p1b (pl j (hT s))))] ?_
         refine op_nil ?_
         refine W_seq ?_
         refine W_seq ?_
         refine zF [(0, .string (bsT (pl j (hT s)))), (2, .pointer (some ⟨w.heap.size, 0, none⟩)), (4, .pointer (some ⟨w1.heap.size, 0, none⟩)), (7, .int .i64 ((hN s : Nat) : Int)), (8, .int .i64 ((j : Nat) : Int)), (9, .pointer (some ⟨w52.heap.size, 0, none⟩)), (10, .string (bsT (p1r (pl j (hT s))))), (11, .bool (p1b (pl j (hT s)))), (68, .bool (decide (((j : Nat) : Int) < ((hN s : Nat) : Int))))] fun ρ => ?_
         refine zR ?_
         refine zS [(77, .bool (p1b (pl j (hT s)))), (78, .bool (!(p1b (pl j (hT s)))))] ?_
         refine zO (!(p1b (pl j (hT s)))) (fun hc64 => ?_) (fun hc64 => ?_)
         ·
          replace hc64 : p1b (pl j (hT s)) = false := ((not_t hc64))
          refine zQ ?_
          refine zS [(79, .agg #[.int .i64 0, .int .i64 0, .slice none 0 0, .int .i64 0, .int .i64 0])] ?_
          refine st (by rfl) (S_storeA (b := w.heap.size) (j := 0) (cs := [.int .i64 0, .int .i64 0, .slice none 0 0, .int .i64 0, .int .i64 0]) (by kernel_rfl) (by kernel_rfl) (by kernel_rfl) (by simp [oneV]) hB4 (by simp) fun w65 hT66 hs67 hB4' => ?_)
          have hT0 := (hT0).then hT66 (fun c e => by have : c = w.heap.size := e; omega)
          have hQ4 := hQ4.tch hT66 (fun e => by have : w1.heap.size = w.heap.size := e; omega)
          have hO := hO.tch hT66 (fun c hc e => hO.blk_ne hB4 (by decide) c hc e)
          have hEl := hEl.st2 hT66 (fun t ht b hb e => by have e : b = w.heap.size := e; first | (have h1 := ((hEl t ht).2 b hb).1; omega) | (have h2 := hElt t ht b hb; omega))
          have hzW := Nat.le_trans hzW hT66.size
          have hUm := hUm.tch hT66 (fun b hb e => by have e : b = w.heap.size := e; first | (have h1 := hUf b hb; omega) | (have h2 := hUlt b hb; omega))
          have hB57 := hB57.tch hT66 (hB57.ne hB4 (by decide))
          replace hB4 : Blk w65 w.heap.size 25 [.int .i64 0, .int .i64 0, .slice none 0 0, .int .i64 0, .int .i64 0] := hB4'
          refine zS [(3, .int .i64 6)] ?_
          refine op_nil ?_
          refine W_ret ?_
          refine ⟨_, Res_cell1 (b := w.heap.size) (cs := [.int .i64 0, .int .i64 0, .slice none 0 0, .int .i64 0, .int .i64 0]) (by rfl) (by kernel_rfl) (by kernel_rfl) (by kernel_rfl) hB4 (by kernel_rfl) (by kernel_rfl), ?_⟩
          have hc : code s = 6 := by unfold code; first | (exfalso; omega) | (rw [if_pos (by omega)]) | (rw [if_neg (by omega), if_pos (by omega)]) | (rw [if_neg (by omega), if_neg (by omega), if_pos (by omega)]) | (rw [if_neg (by omega), if_neg (by omega), if_neg (by omega), if_pos (by omega)]) | (rw [if_neg (by omega), if_neg (by omega), if_neg (by omega), if_neg (by omega), if_pos (by omega)]) | (rw [if_neg (by omega), if_neg (by omega), if_neg (by omega), if_neg (by omega), if_neg (by omega), if_pos (by omega)]) | (rw [if_neg (by omega), if_neg (by omega), if_neg (by omega), if_neg (by omega), if_neg (by omega), if_neg (by omega), if_pos (okN_f (j := j) (by omega) (by assumption))]) | (rw [if_neg (by omega), if_neg (by omega), if_neg (by omega), if_neg (by omega), if_neg (by omega), if_neg (by omega), if_neg (okN_t (fun i h => hokj i (by omega))), if_pos (by rw [show hN s = j by omega]; omega)]) | (rw [if_neg (by omega), if_neg (by omega), if_neg (by omega), if_neg (by omega), if_neg (by omega), if_neg (by omega), if_neg (okN_t (fun i h => hokj i (by omega))), if_neg (by rw [show hN s = j by omega]; omega)])
          have hr := rep_f (s := s) (by rw [hc]; decide)
          refine ⟨none, 0, [], by rw [hc, hr.1, hr.2.1, hr.2.2.1, hr.2.2.2.1]; rfl, TsW.nil_ _ _, hr.2.2.2.2.symm, TsB.nil_ _ _ _, hT0⟩
         ·
          replace hc64 : p1b (pl j (hT s)) = true := ((not_f hc64))
          refine W_skip ?_
          refine zQ ?_
          refine zS [(80, .pointer (some ⟨w1.heap.size, 2, none⟩))] ?_
          refine zL (.slice B n cb) ((hQ4.cell 2).trans rfl) ?_
          refine st (by rfl) (S_val (v := .agg #[.slice u.iA u.inp.length u.iC, .int .i64 u.pt, .int .i64 u.ms, .slice u.gA u.img.length u.gC, .int .i64 u.kd, .int .i64 u.cd]) (R_loadA [.slice u.iA u.inp.length u.iC, .int .i64 u.pt, .int .i64 u.ms, .slice u.gA u.img.length u.gC, .int .i64 u.kd, .int .i64 u.cd] (by kernel_rfl) (by kernel_rfl) (by kernel_rfl) (fun k u hk => by rw [hB57.cell]; exact get_part _ 0 _ k u rfl hk)) ?_)
          have hz72 := hT0.size
          have lt73 := hB4.lt
          have lt74 := hQ4.lt
          have lR_hO := hO.lt
          have lt75 := hB57.lt
          have hElt : ∀ t, t ∈ L → ∀ b, t.has b → b < w61.heap.size := fun t ht b hb => (hEl t ht).1.lt b hb
          have hUlt := hUm.lt
          refine st (by rfl) (S_new (v := .slice (some ⟨w61.heap.size, 0, none⟩) 1 1) (ob := .cells #[.slice u.iA u.inp.length u.iC, .int .i64 u.pt, .int .i64 u.ms, .slice u.gA u.img.length u.gC, .int .i64 u.kd, .int .i64 u.cd] 43) (by kernel_rfl) fun w68 hT69 hs70 hB71 => ?_)
          replace hB71 : Blk w68 (w61.heap.size) 43 [.slice u.iA u.inp.length u.iC, .int .i64 u.pt, .int .i64 u.ms, .slice u.gA u.img.length u.gC, .int .i64 u.kd, .int .i64 u.cd] := hB71
          have hT0 := hT0.t0 hT69
          have hB4 := hB4.tch0 hT69
          have hQ4 := hQ4.tch0 hT69
          have hO := hO.tch0 hT69
          have hEl := hEl.tch0 hT69
          have hzW := Nat.le_trans hzW hT69.size
          have hUm := hUm.tch0 hT69
          have hB57 := hB57.tch0 hT69
          have hz_ := hT0.size
          have lt_hB4 := hB4.lt
          have lt_hQ4 := hQ4.lt
          have lt_hB57 := hB57.lt
          have lt_hB71 := hB71.lt
          have lR_hO := hO.lt
          refine st (by rfl) (S_appendR 23 43 (.agg #[.slice none 0 0, .int .i64 0, .int .i64 0, .slice none 0 0, .int .i64 0, .int .i64 0]) 6 80 (n := n) (m := 1) (A := B) (cp := cb) (cells := tcs L) (news := [.slice u.iA u.inp.length u.iC, .int .i64 u.pt, .int .i64 u.ms, .slice u.gA u.img.length u.gC, .int .i64 u.kd, .int .i64 u.cd]) (b := w61.heap.size) (off := 0) (c := 1) (by kernel_rfl) (by kernel_rfl) (by decide) (by kernel_rfl) (by kernel_rfl) (by kernel_rfl) hO (by rfl) (fun k u hk => by rw [Nat.zero_add, hB71.cell]; exact hk) (by simp [oneV]) (by simp only [maxLen]; omega) (by omega) fun A76 c76 w76 hO76 hw76 hT76 => ?_)
          have hEl9 : TsE w76 (L ++ [u]) (.slice A76 (n + 1) c76) (w1.heap.size + 1) := hEl.app hT76 hw76 hUm (fun b hb => ⟨by have := hUf b hb; omega, fun e => by have h1 := hUf b hb; have h2 := lU_hO b e; omega⟩)
          have hzW0 := hzW
          have hT0 := (hT0).then hT76 (fun c e => by have := nB_hO c e; omega)
          have hB4 := hB4.tch hT76 (fun e => hO.blk_ne hB4 (by decide) _ e rfl)
          have hQ4 := hQ4.tch hT76 (fun e => hO.blk_ne hQ4 (by decide) _ e rfl)
          have hzW := Nat.le_trans hzW hT76.size
          have hO : Own w76 0 43 6 (.slice A76 (n + 1) c76) (n + 1) (tcs (L ++ [u])) := by rw [tcs_snoc]; exact hO76
          have nB_hO : ∀ c, (Value.slice A76 (n + 1) c76).ownBlock = some c → w1.heap.size + 1 ≤ c := fun c hc => (hw76 c hc).elim (nB_hO c) (fun q => by omega)
          have hEl := hEl9
          refine zS [(85, .pointer (some ⟨w1.heap.size, 2, none⟩))] ?_
          refine st (by rfl) (S_store (b := w1.heap.size) (j := 2) (v := .slice A76 (n + 1) c76) (by kernel_rfl) (by kernel_rfl) (by kernel_rfl) (by rfl) hQ4 (by simp) fun w77 hT78 hs79 hQ4' => ?_)
          have hT0 := (hT0).then hT78 (fun c e => by have : c = w1.heap.size := e; omega)
          have hB4 := hB4.tch hT78 (fun e => by have : w.heap.size = w1.heap.size := e; omega)
          have hzW := Nat.le_trans hzW hT78.size
          have hO := hO.tch hT78 (fun c hc e => hO.blk_ne hQ4 (by decide) c hc e)
          have hEl := hEl.st2 hT78 (fun t ht b hb e => by have e : b = w1.heap.size := e; first | (have h1 := ((hEl t ht).2 b hb).1; omega) | (have h2 := hElt t ht b hb; omega))
          replace hQ4 : Blk w77 w1.heap.size 25 [.int .i64 ((hV s : Nat) : Int), .int .i64 ((hE s : Nat) : Int), .slice A76 (n + 1) c76, .int .i64 ((hS s : Nat) : Int), .int .i64 ((hU s : Nat) : Int)] := hQ4'
          refine op_nil ?_
          refine zF [(0, .string (bsT (pl j (hT s)))), (2, .pointer (some ⟨w.heap.size, 0, none⟩)), (4, .pointer (some ⟨w1.heap.size, 0, none⟩)), (7, .int .i64 ((hN s : Nat) : Int)), (8, .int .i64 ((j : Nat) : Int)), (9, .pointer (some ⟨w52.heap.size, 0, none⟩)), (10, .string (bsT (p1r (pl j (hT s))))), (11, .bool (p1b (pl j (hT s)))), (68, .bool (decide (((j : Nat) : Int) < ((hN s : Nat) : Int)))), (78, .bool (!(p1b (pl j (hT s)))))] fun ρ => ?_
          refine zR ?_
          refine zS [(86, .string (bsT (p1r (pl j (hT s))))), (0, .string (bsT (p1r (pl j (hT s)))))] ?_
          refine op_nil ?_
          refine zR ?_
          refine zS [(69, .int .i64 ((j : Nat) : Int)), (70, .int .i64 (IntKind.i64.wrap (((j : Nat) : Int) + 1)))] ?_
          rw [show IntKind.i64.wrap (((j : Nat) : Int) + 1) = ((j : Nat) : Int) + 1 from wrap_i64 (by omega) (by omega)]
          refine fixR (y := ((j + 1 : Nat) : Int)) (by omega) ?_
          refine zS [(8, .int .i64 ((j + 1 : Nat) : Int))] ?_
          refine op_nil ?_
          refine ⟨_, (by omega), A76, n + 1, c76, j + 1, L ++ [u], _, updL_self (by kernel_rfl), (by omega), (by omega), (by rw [List.length_append]; simp only [List.length_cons, List.length_nil]; omega), (by rw [cores_snoc, pc_step, hcL, hUc (by assumption)]), (fun i h => (Nat.lt_or_eq_of_le (Nat.le_of_lt_succ h)).elim (hokj i) (fun e => by rw [e]; assumption)), nB_hO, hT0, hB4, hQ4, hO, hEl, hzW, rfl⟩
        ·
         replace hc51 : ((hN s : Nat) : Int) ≤ ((j : Nat) : Int) := (Int.not_lt.1 (of_decide_eq_false hc51))
         refine W_exit ?_
         refine X_hit ?_
         refine W_seq ?_
         refine zQ ?_
         refine zS [(87, .string (bsT (pl j (hT s)))), (88, .int .i64 (((pl j (hT s)).length : Nat) : Int)), (89, .bool (decide ((((pl j (hT s)).length : Nat) : Int) > 0)))] ?_
         refine zO (decide ((((pl j (hT s)).length : Nat) : Int) > 0)) (fun hc80 => ?_) (fun hc80 => ?_)
         ·
          replace hc80 : 0 < (((pl j (hT s)).length : Nat) : Int) := (of_decide_eq_true hc80)
          refine zQ ?_
          refine zS [(90, .agg #[.int .i64 0, .int .i64 0, .slice none 0 0, .int .i64 0, .int .i64 0])] ?_
          refine st (by rfl) (S_storeA (b := w.heap.size) (j := 0) (cs := [.int .i64 0, .int .i64 0, .slice none 0 0, .int .i64 0, .int .i64 0]) (by kernel_rfl) (by kernel_rfl) (by kernel_rfl) (by simp [oneV]) hB4 (by simp) fun w81 hT82 hs83 hB4' => ?_)
          have hT0 := (hT0).then hT82 (fun c e => by have : c = w.heap.size := e; omega)
          have hQ4 := hQ4.tch hT82 (fun e => by have : w1.heap.size = w.heap.size := e; omega)
          have hO := hO.tch hT82 (fun c hc e => hO.blk_ne hB4 (by decide) c hc e)
          have hEl := hEl.st2 hT82 (fun t ht b hb e => by have e : b = w.heap.size := e; first | (have h1 := ((hEl t ht).2 b hb).1; omega) | (have h2 := hElt t ht b hb; omega))
          have hzW := Nat.le_trans hzW hT82.size
          replace hB4 : Blk w81 w.heap.size 25 [.int .i64 0, .int .i64 0, .slice none 0 0, .int .i64 0, .int .i64 0] := hB4'
          refine zS [(3, .int .i64 5)] ?_
          refine op_nil ?_
          refine W_ret ?_
          refine ⟨_, Res_cell1 (b := w.heap.size) (cs := [.int .i64 0, .int .i64 0, .slice none 0 0, .int .i64 0, .int .i64 0]) (by rfl) (by kernel_rfl) (by kernel_rfl) (by kernel_rfl) hB4 (by kernel_rfl) (by kernel_rfl), ?_⟩
          have hc : code s = 5 := by unfold code; first | (exfalso; omega) | (rw [if_pos (by omega)]) | (rw [if_neg (by omega), if_pos (by omega)]) | (rw [if_neg (by omega), if_neg (by omega), if_pos (by omega)]) | (rw [if_neg (by omega), if_neg (by omega), if_neg (by omega), if_pos (by omega)]) | (rw [if_neg (by omega), if_neg (by omega), if_neg (by omega), if_neg (by omega), if_pos (by omega)]) | (rw [if_neg (by omega), if_neg (by omega), if_neg (by omega), if_neg (by omega), if_neg (by omega), if_pos (by omega)]) | (rw [if_neg (by omega), if_neg (by omega), if_neg (by omega), if_neg (by omega), if_neg (by omega), if_neg (by omega), if_pos (okN_f (j := j) (by omega) (by assumption))]) | (rw [if_neg (by omega), if_neg (by omega), if_neg (by omega), if_neg (by omega), if_neg (by omega), if_neg (by omega), if_neg (okN_t (fun i h => hokj i (by omega))), if_pos (by rw [show hN s = j by omega]; omega)]) | (rw [if_neg (by omega), if_neg (by omega), if_neg (by omega), if_neg (by omega), if_neg (by omega), if_neg (by omega), if_neg (okN_t (fun i h => hokj i (by omega))), if_neg (by rw [show hN s = j by omega]; omega)])
          have hr := rep_f (s := s) (by rw [hc]; decide)
          refine ⟨none, 0, [], by rw [hc, hr.1, hr.2.1, hr.2.2.1, hr.2.2.2.1]; rfl, TsW.nil_ _ _, hr.2.2.2.2.symm, TsB.nil_ _ _ _, hT0⟩
         ·
          replace hc80 : (((pl j (hT s)).length : Nat) : Int) ≤ 0 := (Int.not_lt.1 (of_decide_eq_false hc80))
          refine W_skip ?_
          refine zQ ?_
          refine st (by rfl) (S_val (v := .agg #[.int .i64 ((hV s : Nat) : Int), .int .i64 ((hE s : Nat) : Int), .slice B n cb, .int .i64 ((hS s : Nat) : Int), .int .i64 ((hU s : Nat) : Int)]) (R_loadA [.int .i64 ((hV s : Nat) : Int), .int .i64 ((hE s : Nat) : Int), .slice B n cb, .int .i64 ((hS s : Nat) : Int), .int .i64 ((hU s : Nat) : Int)] (by kernel_rfl) (by kernel_rfl) (by kernel_rfl) (fun k u hk => by rw [hQ4.cell]; exact get_part _ 0 _ k u rfl hk)) ?_)
          refine st (by rfl) (S_storeA (b := w.heap.size) (j := 0) (cs := [.int .i64 ((hV s : Nat) : Int), .int .i64 ((hE s : Nat) : Int), .slice B n cb, .int .i64 ((hS s : Nat) : Int), .int .i64 ((hU s : Nat) : Int)]) (by kernel_rfl) (by kernel_rfl) (by kernel_rfl) (by simp [oneV]) hB4 (by simp) fun w84 hT85 hs86 hB4' => ?_)
          have hT0 := (hT0).then hT85 (fun c e => by have : c = w.heap.size := e; omega)
          have hQ4 := hQ4.tch hT85 (fun e => by have : w1.heap.size = w.heap.size := e; omega)
          have hO := hO.tch hT85 (fun c hc e => hO.blk_ne hB4 (by decide) c hc e)
          have hEl := hEl.st2 hT85 (fun t ht b hb e => by have e : b = w.heap.size := e; first | (have h1 := ((hEl t ht).2 b hb).1; omega) | (have h2 := hElt t ht b hb; omega))
          have hzW := Nat.le_trans hzW hT85.size
          replace hB4 : Blk w84 w.heap.size 25 [.int .i64 ((hV s : Nat) : Int), .int .i64 ((hE s : Nat) : Int), .slice B n cb, .int .i64 ((hS s : Nat) : Int), .int .i64 ((hU s : Nat) : Int)] := hB4'
          refine zS [(3, .int .i64 0)] ?_
          refine op_nil ?_
          refine W_ret ?_
          refine ⟨_, Res_cell1 (b := w.heap.size) (cs := [.int .i64 ((hV s : Nat) : Int), .int .i64 ((hE s : Nat) : Int), .slice B n cb, .int .i64 ((hS s : Nat) : Int), .int .i64 ((hU s : Nat) : Int)]) (by rfl) (by kernel_rfl) (by kernel_rfl) (by kernel_rfl) hB4 (by kernel_rfl) (by kernel_rfl), ?_⟩
          have hc : code s = 0 := by unfold code; first | (exfalso; omega) | (rw [if_pos (by omega)]) | (rw [if_neg (by omega), if_pos (by omega)]) | (rw [if_neg (by omega), if_neg (by omega), if_pos (by omega)]) | (rw [if_neg (by omega), if_neg (by omega), if_neg (by omega), if_pos (by omega)]) | (rw [if_neg (by omega), if_neg (by omega), if_neg (by omega), if_neg (by omega), if_pos (by omega)]) | (rw [if_neg (by omega), if_neg (by omega), if_neg (by omega), if_neg (by omega), if_neg (by omega), if_pos (by omega)]) | (rw [if_neg (by omega), if_neg (by omega), if_neg (by omega), if_neg (by omega), if_neg (by omega), if_neg (by omega), if_pos (okN_f (j := j) (by omega) (by assumption))]) | (rw [if_neg (by omega), if_neg (by omega), if_neg (by omega), if_neg (by omega), if_neg (by omega), if_neg (by omega), if_neg (okN_t (fun i h => hokj i (by omega))), if_pos (by rw [show hN s = j by omega]; omega)]) | (rw [if_neg (by omega), if_neg (by omega), if_neg (by omega), if_neg (by omega), if_neg (by omega), if_neg (by omega), if_neg (okN_t (fun i h => hokj i (by omega))), if_neg (by rw [show hN s = j by omega]; omega)])
          have hr := rep_t hc
          have hn2 : n = L.length := by omega
          subst hn2
          refine ⟨B, cb, L, by rw [hc, hr.1, hr.2.1, hr.2.2.1, hr.2.2.2.1]; rfl, ⟨hO.rdS, fun t ht => (hEl t ht).1⟩, by rw [hr.2.2.2.2, hcL, show hN s = j by omega], TsB.of hO hEl nB_hO (by omega), hT0⟩
 ·
  replace hb11 : 0 < ((s.length : Nat) : Int) := (of_decide_eq_true hb11)
  refine zS [(16, .string (bsT s))] ?_
  refine stv (v := .int .u8 (((s.getD 0 0).toNat : Nat) : Int)) (by kernel_rfl) (R_six (a := s) (k := .i64) (i := 0) 0 (by kernel_rfl) (by kernel_rfl) (by kernel_rfl) rfl (by omega)) ?_
  refine zS [(18, .bool (decide ((((s.getD 0 0).toNat : Nat) : Int) > 3))), (19, .bool (decide ((((s.getD 0 0).toNat : Nat) : Int) > 3)))] ?_
  refine zO (decide ((((s.getD 0 0).toNat : Nat) : Int) > 3)) (fun hc87 => ?_) (fun hc87 => ?_)
  ·
   replace hc87 : 3 < (((s.getD 0 0).toNat : Nat) : Int) := (of_decide_eq_true hc87)
   refine W_seq ?_
   refine zF [(0, .string (bsT s)), (2, .pointer (some ⟨w.heap.size, 0, none⟩)), (3, .int .i64 0), (4, .pointer (some ⟨w1.heap.size, 0, none⟩)), (19, .bool (decide ((((s.getD 0 0).toNat : Nat) : Int) > 3)))] fun ρ => ?_
   refine zR ?_
   refine zS [(20, .agg #[.int .i64 0, .int .i64 0, .slice none 0 0, .int .i64 0, .int .i64 0])] ?_
   refine st (by rfl) (S_storeA (b := w.heap.size) (j := 0) (cs := [.int .i64 0, .int .i64 0, .slice none 0 0, .int .i64 0, .int .i64 0]) (by kernel_rfl) (by kernel_rfl) (by kernel_rfl) (by simp [oneV]) hB4 (by simp) fun w88 hT89 hs90 hB4' => ?_)
   have hT0 := (hT0).then hT89 (fun c e => by have : c = w.heap.size := e; omega)
   have hB8 := hB8.tch hT89 (fun e => by have : w1.heap.size = w.heap.size := e; omega)
   replace hB4 : Blk w88 w.heap.size 25 [.int .i64 0, .int .i64 0, .slice none 0 0, .int .i64 0, .int .i64 0] := hB4'
   refine zS [(3, .int .i64 4)] ?_
   refine op_nil ?_
   refine W_ret ?_
   refine ⟨_, Res_cell1 (b := w.heap.size) (cs := [.int .i64 0, .int .i64 0, .slice none 0 0, .int .i64 0, .int .i64 0]) (by rfl) (by kernel_rfl) (by kernel_rfl) (by kernel_rfl) hB4 (by kernel_rfl) (by kernel_rfl), ?_⟩
   have hc : code s = 4 := by unfold code; first | (exfalso; omega) | (rw [if_pos (by omega)]) | (rw [if_neg (by omega), if_pos (by omega)]) | (rw [if_neg (by omega), if_neg (by omega), if_pos (by omega)]) | (rw [if_neg (by omega), if_neg (by omega), if_neg (by omega), if_pos (by omega)]) | (rw [if_neg (by omega), if_neg (by omega), if_neg (by omega), if_neg (by omega), if_pos (by omega)]) | (rw [if_neg (by omega), if_neg (by omega), if_neg (by omega), if_neg (by omega), if_neg (by omega), if_pos (by omega)]) | (rw [if_neg (by omega), if_neg (by omega), if_neg (by omega), if_neg (by omega), if_neg (by omega), if_neg (by omega), if_pos (okN_f (j := j) (by omega) (by assumption))]) | (rw [if_neg (by omega), if_neg (by omega), if_neg (by omega), if_neg (by omega), if_neg (by omega), if_neg (by omega), if_neg (okN_t (fun i h => hokj i (by omega))), if_pos (by rw [show hN s = j by omega]; omega)]) | (rw [if_neg (by omega), if_neg (by omega), if_neg (by omega), if_neg (by omega), if_neg (by omega), if_neg (by omega), if_neg (okN_t (fun i h => hokj i (by omega))), if_neg (by rw [show hN s = j by omega]; omega)])
   have hr := rep_f (s := s) (by rw [hc]; decide)
   refine ⟨none, 0, [], by rw [hc, hr.1, hr.2.1, hr.2.2.1, hr.2.2.2.1]; rfl, TsW.nil_ _ _, hr.2.2.2.2.symm, TsB.nil_ _ _ _, hT0⟩
  ·
   replace hc87 : (((s.getD 0 0).toNat : Nat) : Int) ≤ 3 := (Int.not_lt.1 (of_decide_eq_false hc87))
   refine W_skip ?_
   refine W_seq ?_
   refine W_seq ?_
   refine zF [(0, .string (bsT s)), (2, .pointer (some ⟨w.heap.size, 0, none⟩)), (3, .int .i64 0), (4, .pointer (some ⟨w1.heap.size, 0, none⟩)), (19, .bool (decide ((((s.getD 0 0).toNat : Nat) : Int) > 3)))] fun ρ => ?_
   refine zR ?_
   refine zS [(21, .string (bsT s)), (22, .int .i64 ((s.length : Nat) : Int)), (23, .bool (decide (((s.length : Nat) : Int) < 6)))] ?_
   refine zO (decide (((s.length : Nat) : Int) < 6)) (fun hc91 => ?_) (fun hc91 => ?_)
   ·
    replace hc91 : ((s.length : Nat) : Int) < 6 := (of_decide_eq_true hc91)
    refine zQ ?_
    refine zS [(24, .agg #[.int .i64 0, .int .i64 0, .slice none 0 0, .int .i64 0, .int .i64 0])] ?_
    refine st (by rfl) (S_storeA (b := w.heap.size) (j := 0) (cs := [.int .i64 0, .int .i64 0, .slice none 0 0, .int .i64 0, .int .i64 0]) (by kernel_rfl) (by kernel_rfl) (by kernel_rfl) (by simp [oneV]) hB4 (by simp) fun w92 hT93 hs94 hB4' => ?_)
    have hT0 := (hT0).then hT93 (fun c e => by have : c = w.heap.size := e; omega)
    have hB8 := hB8.tch hT93 (fun e => by have : w1.heap.size = w.heap.size := e; omega)
    replace hB4 : Blk w92 w.heap.size 25 [.int .i64 0, .int .i64 0, .slice none 0 0, .int .i64 0, .int .i64 0] := hB4'
    refine zS [(3, .int .i64 6)] ?_
    refine op_nil ?_
    refine W_ret ?_
    refine ⟨_, Res_cell1 (b := w.heap.size) (cs := [.int .i64 0, .int .i64 0, .slice none 0 0, .int .i64 0, .int .i64 0]) (by rfl) (by kernel_rfl) (by kernel_rfl) (by kernel_rfl) hB4 (by kernel_rfl) (by kernel_rfl), ?_⟩
    have hc : code s = 6 := by unfold code; first | (exfalso; omega) | (rw [if_pos (by omega)]) | (rw [if_neg (by omega), if_pos (by omega)]) | (rw [if_neg (by omega), if_neg (by omega), if_pos (by omega)]) | (rw [if_neg (by omega), if_neg (by omega), if_neg (by omega), if_pos (by omega)]) | (rw [if_neg (by omega), if_neg (by omega), if_neg (by omega), if_neg (by omega), if_pos (by omega)]) | (rw [if_neg (by omega), if_neg (by omega), if_neg (by omega), if_neg (by omega), if_neg (by omega), if_pos (by omega)]) | (rw [if_neg (by omega), if_neg (by omega), if_neg (by omega), if_neg (by omega), if_neg (by omega), if_neg (by omega), if_pos (okN_f (j := j) (by omega) (by assumption))]) | (rw [if_neg (by omega), if_neg (by omega), if_neg (by omega), if_neg (by omega), if_neg (by omega), if_neg (by omega), if_neg (okN_t (fun i h => hokj i (by omega))), if_pos (by rw [show hN s = j by omega]; omega)]) | (rw [if_neg (by omega), if_neg (by omega), if_neg (by omega), if_neg (by omega), if_neg (by omega), if_neg (by omega), if_neg (okN_t (fun i h => hokj i (by omega))), if_neg (by rw [show hN s = j by omega]; omega)])
    have hr := rep_f (s := s) (by rw [hc]; decide)
    refine ⟨none, 0, [], by rw [hc, hr.1, hr.2.1, hr.2.2.1, hr.2.2.2.1]; rfl, TsW.nil_ _ _, hr.2.2.2.2.symm, TsB.nil_ _ _ _, hT0⟩
   ·
    replace hc91 : 6 ≤ ((s.length : Nat) : Int) := (Int.not_lt.1 (of_decide_eq_false hc91))
    refine W_skip ?_
    refine zQ ?_
    refine zS [(25, .string (bsT s))] ?_
    refine stv (v := .int .u8 (((s.getD 0 0).toNat : Nat) : Int)) (by rfl) (R_six (a := s) (k := .i64) (i := 0) 0 (by kernel_rfl) (by kernel_rfl) (by kernel_rfl) rfl (by omega)) ?_
    refine zS [(27, .int .i64 (IntKind.i64.wrap (((s.getD 0 0).toNat : Nat) : Int)))] ?_
    rw [show IntKind.i64.wrap (((s.getD 0 0).toNat : Nat) : Int) = (((s.getD 0 0).toNat : Nat) : Int) from wrap_i64 (by omega) (by omega)]
    refine fixR (y := ((hV s : Nat) : Int)) (by rfl) ?_
    refine zS [(28, .pointer (some ⟨w1.heap.size, 0, none⟩))] ?_
    refine st (by rfl) (S_store (b := w1.heap.size) (j := 0) (v := .int .i64 ((hV s : Nat) : Int)) (by kernel_rfl) (by kernel_rfl) (by kernel_rfl) (by rfl) hB8 (by simp) fun w95 hT96 hs97 hB8' => ?_)
    have hT0 := (hT0).then hT96 (fun c e => by have : c = w1.heap.size := e; omega)
    have hB4 := hB4.tch hT96 (fun e => by have : w.heap.size = w1.heap.size := e; omega)
    replace hB8 : Blk w95 w1.heap.size 25 [.int .i64 ((hV s : Nat) : Int), .int .i64 0, .slice none 0 0, .int .i64 0, .int .i64 0] := hB8'
    refine op_nil ?_
    refine zQ ?_
    refine zS [(29, .string (bsT s))] ?_
    refine stv (v := .int .u8 (((s.getD 1 0).toNat : Nat) : Int)) (by rfl) (R_six (a := s) (k := .i64) (i := 1) 1 (by kernel_rfl) (by kernel_rfl) (by kernel_rfl) rfl (by omega)) ?_
    refine zS [(31, .int .i64 (IntKind.i64.wrap (((s.getD 1 0).toNat : Nat) : Int)))] ?_
    rw [show IntKind.i64.wrap (((s.getD 1 0).toNat : Nat) : Int) = (((s.getD 1 0).toNat : Nat) : Int) from wrap_i64 (by omega) (by omega)]
    refine fixR (y := ((hE s : Nat) : Int)) (by rfl) ?_
    refine zS [(32, .pointer (some ⟨w1.heap.size, 1, none⟩))] ?_
    refine st (by rfl) (S_store (b := w1.heap.size) (j := 1) (v := .int .i64 ((hE s : Nat) : Int)) (by kernel_rfl) (by kernel_rfl) (by kernel_rfl) (by rfl) hB8 (by simp) fun w98 hT99 hs100 hB8' => ?_)
    have hT0 := (hT0).then hT99 (fun c e => by have : c = w1.heap.size := e; omega)
    have hB4 := hB4.tch hT99 (fun e => by have : w.heap.size = w1.heap.size := e; omega)
    replace hB8 : Blk w98 w1.heap.size 25 [.int .i64 ((hV s : Nat) : Int), .int .i64 ((hE s : Nat) : Int), .slice none 0 0, .int .i64 0, .int .i64 0] := hB8'
    refine op_nil ?_
    refine W_seq ?_
    refine zF [(0, .string (bsT s)), (2, .pointer (some ⟨w.heap.size, 0, none⟩)), (3, .int .i64 0), (4, .pointer (some ⟨w1.heap.size, 0, none⟩)), (19, .bool (decide ((((s.getD 0 0).toNat : Nat) : Int) > 3))), (23, .bool (decide (((s.length : Nat) : Int) < 6)))] fun ρ => ?_
    refine zR ?_
    refine zS [(33, .string (bsT s))] ?_
    refine stv (v := .string (bsT ((s.drop 2).take 4))) (by rfl) (R_sslLH (a := s) (i1 := 2) (i2 := 6) 2 6 (by kernel_rfl) (by kernel_rfl) (by kernel_rfl) (by kernel_rfl) rfl rfl (by omega) (by omega)) ?_
    refine zC (val_ok ((s.drop 2).take 4) _ (by first | omega | (simp only [List.length_take, List.length_drop]; omega))) ?_
    rintro _ w101 ⟨rfl, hT102⟩
    have hT0 := hT0.t0 hT102
    have hB4 := hB4.tch0 hT102
    have hB8 := hB8.tch0 hT102
    refine zS [(36, .int .i64 (IntKind.i64.wrap ((vl ((s.drop 2).take 4) : Nat) : Int)))] ?_
    rw [show IntKind.i64.wrap ((vl ((s.drop 2).take 4) : Nat) : Int) = ((vl ((s.drop 2).take 4) : Nat) : Int) from wrap_i64 (by omega) (by omega)]
    refine fixR (y := ((hS s : Nat) : Int)) (by first | rfl | omega) ?_
    refine zS [(37, .pointer (some ⟨w1.heap.size, 3, none⟩))] ?_
    refine st (by rfl) (S_store (b := w1.heap.size) (j := 3) (v := .int .i64 ((hS s : Nat) : Int)) (by kernel_rfl) (by kernel_rfl) (by kernel_rfl) (by rfl) hB8 (by simp) fun w103 hT104 hs105 hB8' => ?_)
    have hT0 := (hT0).then hT104 (fun c e => by have : c = w1.heap.size := e; omega)
    have hB4 := hB4.tch hT104 (fun e => by have : w.heap.size = w1.heap.size := e; omega)
    replace hB8 : Blk w103 w1.heap.size 25 [.int .i64 ((hV s : Nat) : Int), .int .i64 ((hE s : Nat) : Int), .slice none 0 0, .int .i64 ((hS s : Nat) : Int), .int .i64 0] := hB8'
    refine op_nil ?_
    refine W_seq ?_
    refine zQ ?_
    refine zS [(38, .pointer (some ⟨w1.heap.size, 3, none⟩))] ?_
    refine zL (.int .i64 ((hS s : Nat) : Int)) ((hB8.cell 3).trans rfl) ?_
    refine zS [(40, .bool (decide (((hS s : Nat) : Int) > 1073741824)))] ?_
    refine zO (decide (((hS s : Nat) : Int) > 1073741824)) (fun hc106 => ?_) (fun hc106 => ?_)
    ·
     replace hc106 : 1073741824 < ((hS s : Nat) : Int) := (of_decide_eq_true hc106)
     refine W_seq ?_
     refine zF [(0, .string (bsT s)), (2, .pointer (some ⟨w.heap.size, 0, none⟩)), (3, .int .i64 0), (4, .pointer (some ⟨w1.heap.size, 0, none⟩)), (19, .bool (decide ((((s.getD 0 0).toNat : Nat) : Int) > 3))), (23, .bool (decide (((s.length : Nat) : Int) < 6))), (40, .bool (decide (((hS s : Nat) : Int) > 1073741824)))] fun ρ => ?_
     refine zR ?_
     refine zS [(41, .agg #[.int .i64 0, .int .i64 0, .slice none 0 0, .int .i64 0, .int .i64 0])] ?_
     refine st (by rfl) (S_storeA (b := w.heap.size) (j := 0) (cs := [.int .i64 0, .int .i64 0, .slice none 0 0, .int .i64 0, .int .i64 0]) (by kernel_rfl) (by kernel_rfl) (by kernel_rfl) (by simp [oneV]) hB4 (by simp) fun w107 hT108 hs109 hB4' => ?_)
     have hT0 := (hT0).then hT108 (fun c e => by have : c = w.heap.size := e; omega)
     have hB8 := hB8.tch hT108 (fun e => by have : w1.heap.size = w.heap.size := e; omega)
     replace hB4 : Blk w107 w.heap.size 25 [.int .i64 0, .int .i64 0, .slice none 0 0, .int .i64 0, .int .i64 0] := hB4'
     refine zS [(3, .int .i64 4)] ?_
     refine op_nil ?_
     refine W_ret ?_
     refine ⟨_, Res_cell1 (b := w.heap.size) (cs := [.int .i64 0, .int .i64 0, .slice none 0 0, .int .i64 0, .int .i64 0]) (by rfl) (by kernel_rfl) (by kernel_rfl) (by kernel_rfl) hB4 (by kernel_rfl) (by kernel_rfl), ?_⟩
     have hc : code s = 4 := by unfold code; first | (exfalso; omega) | (rw [if_pos (by omega)]) | (rw [if_neg (by omega), if_pos (by omega)]) | (rw [if_neg (by omega), if_neg (by omega), if_pos (by omega)]) | (rw [if_neg (by omega), if_neg (by omega), if_neg (by omega), if_pos (by omega)]) | (rw [if_neg (by omega), if_neg (by omega), if_neg (by omega), if_neg (by omega), if_pos (by omega)]) | (rw [if_neg (by omega), if_neg (by omega), if_neg (by omega), if_neg (by omega), if_neg (by omega), if_pos (by omega)]) | (rw [if_neg (by omega), if_neg (by omega), if_neg (by omega), if_neg (by omega), if_neg (by omega), if_neg (by omega), if_pos (okN_f (j := j) (by omega) (by assumption))]) | (rw [if_neg (by omega), if_neg (by omega), if_neg (by omega), if_neg (by omega), if_neg (by omega), if_neg (by omega), if_neg (okN_t (fun i h => hokj i (by omega))), if_pos (by rw [show hN s = j by omega]; omega)]) | (rw [if_neg (by omega), if_neg (by omega), if_neg (by omega), if_neg (by omega), if_neg (by omega), if_neg (by omega), if_neg (okN_t (fun i h => hokj i (by omega))), if_neg (by rw [show hN s = j by omega]; omega)])
     have hr := rep_f (s := s) (by rw [hc]; decide)
     refine ⟨none, 0, [], by rw [hc, hr.1, hr.2.1, hr.2.2.1, hr.2.2.2.1]; rfl, TsW.nil_ _ _, hr.2.2.2.2.symm, TsB.nil_ _ _ _, hT0⟩
    ·
     replace hc106 : ((hS s : Nat) : Int) ≤ 1073741824 := (Int.not_lt.1 (of_decide_eq_false hc106))
     refine W_skip ?_
     refine W_seq ?_
     refine zF [(0, .string (bsT s)), (2, .pointer (some ⟨w.heap.size, 0, none⟩)), (3, .int .i64 0), (4, .pointer (some ⟨w1.heap.size, 0, none⟩)), (19, .bool (decide ((((s.getD 0 0).toNat : Nat) : Int) > 3))), (23, .bool (decide (((s.length : Nat) : Int) < 6))), (40, .bool (decide (((hS s : Nat) : Int) > 1073741824)))] fun ρ => ?_
     refine zR ?_
     refine zS [(43, .string (bsT s))] ?_
     refine stv (v := .string (bsT (s.drop 6))) (by rfl) (R_sslL (a := s) (i := 6) 6 (by kernel_rfl) (by kernel_rfl) (by kernel_rfl) rfl (by omega)) ?_
     have hq4 : hU s < 4294967296 := rn_4 _
     refine zC ((show NumR 4 (s.drop 6) (hU s) (hR s) _ from rnum4_ok (s.drop 6) _)) ?_
     rintro _ w110 ⟨rfl, hT111⟩
     have hT0 := hT0.t0 hT111
     have hB4 := hB4.tch0 hT111
     have hB8 := hB8.tch0 hT111
     refine zS [(42, .tuple #[.int .i64 ((hU s : Nat) : Int), .string (bsT (hR s)), .bool (rb 4 (s.drop 6))]), (46, .int .i64 ((hU s : Nat) : Int)), (47, .string (bsT (hR s))), (48, .bool (rb 4 (s.drop 6))), (5, .int .i64 ((hU s : Nat) : Int)), (0, .string (bsT (hR s))), (6, .bool (rb 4 (s.drop 6)))] ?_
     refine op_nil ?_
     refine W_seq ?_
     refine W_seq ?_
     refine zF [(0, .string (bsT (hR s))), (2, .pointer (some ⟨w.heap.size, 0, none⟩)), (3, .int .i64 0), (4, .pointer (some ⟨w1.heap.size, 0, none⟩)), (5, .int .i64 ((hU s : Nat) : Int)), (6, .bool (rb 4 (s.drop 6))), (19, .bool (decide ((((s.getD 0 0).toNat : Nat) : Int) > 3))), (23, .bool (decide (((s.length : Nat) : Int) < 6))), (40, .bool (decide (((hS s : Nat) : Int) > 1073741824)))] fun ρ => ?_
     refine zR ?_
     refine zS [(49, .bool (rb 4 (s.drop 6))), (50, .bool (!(rb 4 (s.drop 6))))] ?_
     refine zO (!(rb 4 (s.drop 6))) (fun hc112 => ?_) (fun hc112 => ?_)
     ·
      replace hc112 : List.length (s.drop 6) < 4 := (Nat.lt_of_not_le (of_decide_eq_false (not_t hc112)))
      refine zQ ?_
      refine zS [(51, .agg #[.int .i64 0, .int .i64 0, .slice none 0 0, .int .i64 0, .int .i64 0])] ?_
      refine st (by rfl) (S_storeA (b := w.heap.size) (j := 0) (cs := [.int .i64 0, .int .i64 0, .slice none 0 0, .int .i64 0, .int .i64 0]) (by kernel_rfl) (by kernel_rfl) (by kernel_rfl) (by simp [oneV]) hB4 (by simp) fun w113 hT114 hs115 hB4' => ?_)
      have hT0 := (hT0).then hT114 (fun c e => by have : c = w.heap.size := e; omega)
      have hB8 := hB8.tch hT114 (fun e => by have : w1.heap.size = w.heap.size := e; omega)
      replace hB4 : Blk w113 w.heap.size 25 [.int .i64 0, .int .i64 0, .slice none 0 0, .int .i64 0, .int .i64 0] := hB4'
      refine zS [(3, .int .i64 6)] ?_
      refine op_nil ?_
      refine W_ret ?_
      refine ⟨_, Res_cell1 (b := w.heap.size) (cs := [.int .i64 0, .int .i64 0, .slice none 0 0, .int .i64 0, .int .i64 0]) (by rfl) (by kernel_rfl) (by kernel_rfl) (by kernel_rfl) hB4 (by kernel_rfl) (by kernel_rfl), ?_⟩
      have hc : code s = 6 := by unfold code; first | (exfalso; omega) | (rw [if_pos (by omega)]) | (rw [if_neg (by omega), if_pos (by omega)]) | (rw [if_neg (by omega), if_neg (by omega), if_pos (by omega)]) | (rw [if_neg (by omega), if_neg (by omega), if_neg (by omega), if_pos (by omega)]) | (rw [if_neg (by omega), if_neg (by omega), if_neg (by omega), if_neg (by omega), if_pos (by omega)]) | (rw [if_neg (by omega), if_neg (by omega), if_neg (by omega), if_neg (by omega), if_neg (by omega), if_pos (by omega)]) | (rw [if_neg (by omega), if_neg (by omega), if_neg (by omega), if_neg (by omega), if_neg (by omega), if_neg (by omega), if_pos (okN_f (j := j) (by omega) (by assumption))]) | (rw [if_neg (by omega), if_neg (by omega), if_neg (by omega), if_neg (by omega), if_neg (by omega), if_neg (by omega), if_neg (okN_t (fun i h => hokj i (by omega))), if_pos (by rw [show hN s = j by omega]; omega)]) | (rw [if_neg (by omega), if_neg (by omega), if_neg (by omega), if_neg (by omega), if_neg (by omega), if_neg (by omega), if_neg (okN_t (fun i h => hokj i (by omega))), if_neg (by rw [show hN s = j by omega]; omega)])
      have hr := rep_f (s := s) (by rw [hc]; decide)
      refine ⟨none, 0, [], by rw [hc, hr.1, hr.2.1, hr.2.2.1, hr.2.2.2.1]; rfl, TsW.nil_ _ _, hr.2.2.2.2.symm, TsB.nil_ _ _ _, hT0⟩
     ·
      replace hc112 : 4 ≤ List.length (s.drop 6) := (of_decide_eq_true (not_f hc112))
      refine W_skip ?_
      refine W_seq ?_
      refine zQ ?_
      refine zS [(52, .int .i64 ((hU s : Nat) : Int)), (53, .bool (decide (((hU s : Nat) : Int) > 1073741824)))] ?_
      refine zO (decide (((hU s : Nat) : Int) > 1073741824)) (fun hc116 => ?_) (fun hc116 => ?_)
      ·
       replace hc116 : 1073741824 < ((hU s : Nat) : Int) := (of_decide_eq_true hc116)
       refine zQ ?_
       refine zS [(54, .agg #[.int .i64 0, .int .i64 0, .slice none 0 0, .int .i64 0, .int .i64 0])] ?_
       refine st (by rfl) (S_storeA (b := w.heap.size) (j := 0) (cs := [.int .i64 0, .int .i64 0, .slice none 0 0, .int .i64 0, .int .i64 0]) (by kernel_rfl) (by kernel_rfl) (by kernel_rfl) (by simp [oneV]) hB4 (by simp) fun w117 hT118 hs119 hB4' => ?_)
       have hT0 := (hT0).then hT118 (fun c e => by have : c = w.heap.size := e; omega)
       have hB8 := hB8.tch hT118 (fun e => by have : w1.heap.size = w.heap.size := e; omega)
       replace hB4 : Blk w117 w.heap.size 25 [.int .i64 0, .int .i64 0, .slice none 0 0, .int .i64 0, .int .i64 0] := hB4'
       refine zS [(3, .int .i64 4)] ?_
       refine op_nil ?_
       refine W_ret ?_
       refine ⟨_, Res_cell1 (b := w.heap.size) (cs := [.int .i64 0, .int .i64 0, .slice none 0 0, .int .i64 0, .int .i64 0]) (by rfl) (by kernel_rfl) (by kernel_rfl) (by kernel_rfl) hB4 (by kernel_rfl) (by kernel_rfl), ?_⟩
       have hc : code s = 4 := by unfold code; first | (exfalso; omega) | (rw [if_pos (by omega)]) | (rw [if_neg (by omega), if_pos (by omega)]) | (rw [if_neg (by omega), if_neg (by omega), if_pos (by omega)]) | (rw [if_neg (by omega), if_neg (by omega), if_neg (by omega), if_pos (by omega)]) | (rw [if_neg (by omega), if_neg (by omega), if_neg (by omega), if_neg (by omega), if_pos (by omega)]) | (rw [if_neg (by omega), if_neg (by omega), if_neg (by omega), if_neg (by omega), if_neg (by omega), if_pos (by omega)]) | (rw [if_neg (by omega), if_neg (by omega), if_neg (by omega), if_neg (by omega), if_neg (by omega), if_neg (by omega), if_pos (okN_f (j := j) (by omega) (by assumption))]) | (rw [if_neg (by omega), if_neg (by omega), if_neg (by omega), if_neg (by omega), if_neg (by omega), if_neg (by omega), if_neg (okN_t (fun i h => hokj i (by omega))), if_pos (by rw [show hN s = j by omega]; omega)]) | (rw [if_neg (by omega), if_neg (by omega), if_neg (by omega), if_neg (by omega), if_neg (by omega), if_neg (by omega), if_neg (okN_t (fun i h => hokj i (by omega))), if_neg (by rw [show hN s = j by omega]; omega)])
       have hr := rep_f (s := s) (by rw [hc]; decide)
       refine ⟨none, 0, [], by rw [hc, hr.1, hr.2.1, hr.2.2.1, hr.2.2.2.1]; rfl, TsW.nil_ _ _, hr.2.2.2.2.symm, TsB.nil_ _ _ _, hT0⟩
      ·
       replace hc116 : ((hU s : Nat) : Int) ≤ 1073741824 := (Int.not_lt.1 (of_decide_eq_false hc116))
       refine W_skip ?_
       refine zQ ?_
       refine zS [(55, .int .i64 ((hU s : Nat) : Int)), (56, .pointer (some ⟨w1.heap.size, 4, none⟩))] ?_
       refine st (by rfl) (S_store (b := w1.heap.size) (j := 4) (v := .int .i64 ((hU s : Nat) : Int)) (by kernel_rfl) (by kernel_rfl) (by kernel_rfl) (by rfl) hB8 (by simp) fun w120 hT121 hs122 hB8' => ?_)
       have hT0 := (hT0).then hT121 (fun c e => by have : c = w1.heap.size := e; omega)
       have hB4 := hB4.tch hT121 (fun e => by have : w.heap.size = w1.heap.size := e; omega)
       replace hB8 : Blk w120 w1.heap.size 25 [.int .i64 ((hV s : Nat) : Int), .int .i64 ((hE s : Nat) : Int), .slice none 0 0, .int .i64 ((hS s : Nat) : Int), .int .i64 ((hU s : Nat) : Int)] := hB8'
       refine op_nil ?_
       refine zQ ?_
       refine zS [(58, .string (bsT (hR s)))] ?_
       have hq2 : hN s < 65536 := rn_2 _
       refine zC ((show NumR 2 (hR s) (hN s) (hT s) _ from rnum2_ok (hR s) _)) ?_
       rintro _ w123 ⟨rfl, hT124⟩
       have hT0 := hT0.t0 hT124
       have hB4 := hB4.tch0 hT124
       have hB8 := hB8.tch0 hT124
       refine zS [(57, .tuple #[.int .i64 ((hN s : Nat) : Int), .string (bsT (hT s)), .bool (rb 2 (hR s))]), (60, .int .i64 ((hN s : Nat) : Int)), (61, .string (bsT (hT s))), (62, .bool (rb 2 (hR s))), (7, .int .i64 ((hN s : Nat) : Int)), (0, .string (bsT (hT s))), (6, .bool (rb 2 (hR s)))] ?_
       refine op_nil ?_
       refine W_seq ?_
       refine W_seq ?_
       refine zF [(0, .string (bsT (hT s))), (2, .pointer (some ⟨w.heap.size, 0, none⟩)), (3, .int .i64 0), (4, .pointer (some ⟨w1.heap.size, 0, none⟩)), (5, .int .i64 ((hU s : Nat) : Int)), (6, .bool (rb 2 (hR s))), (7, .int .i64 ((hN s : Nat) : Int)), (19, .bool (decide ((((s.getD 0 0).toNat : Nat) : Int) > 3))), (23, .bool (decide (((s.length : Nat) : Int) < 6))), (40, .bool (decide (((hS s : Nat) : Int) > 1073741824))), (50, .bool (!(rb 4 (s.drop 6)))), (53, .bool (decide (((hU s : Nat) : Int) > 1073741824)))] fun ρ => ?_
       refine zR ?_
       refine zS [(63, .bool (rb 2 (hR s))), (64, .bool (!(rb 2 (hR s))))] ?_
       refine zO (!(rb 2 (hR s))) (fun hc125 => ?_) (fun hc125 => ?_)
       ·
        replace hc125 : List.length (hR s) < 2 := (Nat.lt_of_not_le (of_decide_eq_false (not_t hc125)))
        refine zQ ?_
        refine zS [(65, .agg #[.int .i64 0, .int .i64 0, .slice none 0 0, .int .i64 0, .int .i64 0])] ?_
        refine st (by rfl) (S_storeA (b := w.heap.size) (j := 0) (cs := [.int .i64 0, .int .i64 0, .slice none 0 0, .int .i64 0, .int .i64 0]) (by kernel_rfl) (by kernel_rfl) (by kernel_rfl) (by simp [oneV]) hB4 (by simp) fun w126 hT127 hs128 hB4' => ?_)
        have hT0 := (hT0).then hT127 (fun c e => by have : c = w.heap.size := e; omega)
        have hB8 := hB8.tch hT127 (fun e => by have : w1.heap.size = w.heap.size := e; omega)
        replace hB4 : Blk w126 w.heap.size 25 [.int .i64 0, .int .i64 0, .slice none 0 0, .int .i64 0, .int .i64 0] := hB4'
        refine zS [(3, .int .i64 6)] ?_
        refine op_nil ?_
        refine W_ret ?_
        refine ⟨_, Res_cell1 (b := w.heap.size) (cs := [.int .i64 0, .int .i64 0, .slice none 0 0, .int .i64 0, .int .i64 0]) (by rfl) (by kernel_rfl) (by kernel_rfl) (by kernel_rfl) hB4 (by kernel_rfl) (by kernel_rfl), ?_⟩
        have hc : code s = 6 := by unfold code; first | (exfalso; omega) | (rw [if_pos (by omega)]) | (rw [if_neg (by omega), if_pos (by omega)]) | (rw [if_neg (by omega), if_neg (by omega), if_pos (by omega)]) | (rw [if_neg (by omega), if_neg (by omega), if_neg (by omega), if_pos (by omega)]) | (rw [if_neg (by omega), if_neg (by omega), if_neg (by omega), if_neg (by omega), if_pos (by omega)]) | (rw [if_neg (by omega), if_neg (by omega), if_neg (by omega), if_neg (by omega), if_neg (by omega), if_pos (by omega)]) | (rw [if_neg (by omega), if_neg (by omega), if_neg (by omega), if_neg (by omega), if_neg (by omega), if_neg (by omega), if_pos (okN_f (j := j) (by omega) (by assumption))]) | (rw [if_neg (by omega), if_neg (by omega), if_neg (by omega), if_neg (by omega), if_neg (by omega), if_neg (by omega), if_neg (okN_t (fun i h => hokj i (by omega))), if_pos (by rw [show hN s = j by omega]; omega)]) | (rw [if_neg (by omega), if_neg (by omega), if_neg (by omega), if_neg (by omega), if_neg (by omega), if_neg (by omega), if_neg (okN_t (fun i h => hokj i (by omega))), if_neg (by rw [show hN s = j by omega]; omega)])
        have hr := rep_f (s := s) (by rw [hc]; decide)
        refine ⟨none, 0, [], by rw [hc, hr.1, hr.2.1, hr.2.2.1, hr.2.2.2.1]; rfl, TsW.nil_ _ _, hr.2.2.2.2.symm, TsB.nil_ _ _ _, hT0⟩
       ·
        replace hc125 : 2 ≤ List.length (hR s) := (of_decide_eq_true (not_f hc125))
        refine W_skip ?_
        refine W_seq ?_
        refine W_seq ?_
        have hO : Own w123 0 43 6 (.slice none 0 0) 0 (tcs []) := Own.nil_ _ _ _ _
        have nB_hO : ∀ c, (Value.slice none 0 0).ownBlock = some c → w1.heap.size + 1 ≤ c := fun c hc => by cases hc
        have hEl : TsE w123 [] (.slice none 0 0) (w1.heap.size + 1) := fun t ht => by cases ht
        have lb_hB4 := hB4.lt
        have lb_hB8 := hB8.lt
        have hzW : w1.heap.size + 1 ≤ w123.heap.size := by omega
        refine zR ?_
        refine zS [(8, .int .i64 0)] ?_
        refine op_nil ?_
        refine W_block ?_
        refine W_loop (fun m ρ w' => ∃ (B : Option Addr) (n cb j : Nat) (L : List T6) (ρ0 : Env), ρ = updL ρ0 [(0, .string (bsT (pl j (hT s)))), (2, .pointer (some ⟨w.heap.size, 0, none⟩)), (4, .pointer (some ⟨w1.heap.size, 0, none⟩)), (7, .int .i64 ((hN s : Nat) : Int)), (8, .int .i64 ((j : Nat) : Int))] ∧ (j ≤ hN s) ∧ (n = j) ∧ (L.length = j) ∧ (cores L = pc j (hT s)) ∧ (∀ i, i < j → p1b (pl i (hT s)) = true) ∧ (∀ c, (Value.slice B n cb).ownBlock = some c → w1.heap.size + 1 ≤ c) ∧ Tch N0 w w' ∧ Blk w' (w.heap.size) 25 [.int .i64 0, .int .i64 0, .slice none 0 0, .int .i64 0, .int .i64 0] ∧ Blk w' (w1.heap.size) 25 [.int .i64 ((hV s : Nat) : Int), .int .i64 ((hE s : Nat) : Int), .slice B n cb, .int .i64 ((hS s : Nat) : Int), .int .i64 ((hU s : Nat) : Int)] ∧ Own w' 0 43 6 (.slice B n cb) n (tcs L) ∧ TsE w' L (.slice B n cb) (w1.heap.size + 1) ∧ (w1.heap.size + 1 ≤ (w').heap.size) ∧ m = hN s + 1 - j) (m := hN s + 1 - 0) ?_ ?_
        ·
         refine ⟨none, 0, 0, 0, [], _, updL_self (by kernel_rfl), by omega, rfl, rfl, rfl, (fun i h => by omega), nB_hO, hT0, hB4, hB8, hO, hEl, hzW, rfl⟩
        ·
         rintro m ρ w129 ⟨B, n, cb, j, L, ρ, rfl, hj, hnj, hLj, hcL, hokj, nB_hO, hT0, hB4, hQ4, hO, hEl, hzW, rfl⟩
         refine W_seq ?_
         refine zQ ?_
         refine zS [(66, .int .i64 ((j : Nat) : Int)), (67, .int .i64 ((hN s : Nat) : Int)), (68, .bool (decide (((j : Nat) : Int) < ((hN s : Nat) : Int))))] ?_
         refine zO (decide (((j : Nat) : Int) < ((hN s : Nat) : Int))) (fun hc130 => ?_) (fun hc130 => ?_)
         ·
          replace hc130 : ((j : Nat) : Int) < ((hN s : Nat) : Int) := (of_decide_eq_true hc130)
          refine W_skip ?_
          refine W_seq ?_
          refine W_block ?_
          refine zQ ?_
          refine zS [(72, .string (bsT (pl j (hT s))))] ?_
          have lU_hO := hO.lt
          have hpl := pl_le (hT s) j
          have htl := hT_le s
          have hzU := hzW
          refine zC (rone_ok (pl j (hT s)) _ (by omega)) ?_
          rintro _ w131 ⟨u, rfl, hUm, hUc, hUf, hT132⟩
          have hT0 := hT0.t0 hT132
          have hB4 := hB4.tch0 hT132
          have hQ4 := hQ4.tch0 hT132
          have hO := hO.tch0 hT132
          have hEl := hEl.tch0 hT132
          have hzW := Nat.le_trans hzW hT132.size
          refine zS [(71, .tuple #[.agg #[.slice u.iA u.inp.length u.iC, .int .i64 u.pt, .int .i64 u.ms, .slice u.gA u.img.length u.gC, .int .i64 u.kd, .int .i64 u.cd], .string (bsT (p1r (pl j (hT s)))), .bool (p1b (pl j (hT s)))]), (74, .agg #[.slice u.iA u.inp.length u.iC, .int .i64 u.pt, .int .i64 u.ms, .slice u.gA u.img.length u.gC, .int .i64 u.kd, .int .i64 u.cd]), (75, .string (bsT (p1r (pl j (hT s))))), (76, .bool (p1b (pl j (hT s))))] ?_
          have hz137 := hT0.size
          have lt138 := hB4.lt
          have lt139 := hQ4.lt
          have lR_hO := hO.lt
          have hElt : ∀ t, t ∈ L → ∀ b, t.has b → b < w131.heap.size := fun t ht b hb => (hEl t ht).1.lt b hb
          have hUlt := hUm.lt
          refine st (by rfl) (S_new (v := .pointer (some ⟨w131.heap.size, 0, none⟩)) (ob := .cells #[.slice none 0 0, .int .i64 0, .int .i64 0, .slice none 0 0, .int .i64 0, .int .i64 0] 43) (by kernel_rfl) fun w133 hT134 hs135 hB136 => ?_)
          replace hB136 : Blk w133 (w131.heap.size) 43 [.slice none 0 0, .int .i64 0, .int .i64 0, .slice none 0 0, .int .i64 0, .int .i64 0] := hB136
          have hT0 := hT0.t0 hT134
          have hB4 := hB4.tch0 hT134
          have hQ4 := hQ4.tch0 hT134
          have hO := hO.tch0 hT134
          have hEl := hEl.tch0 hT134
          have hzW := Nat.le_trans hzW hT134.size
          have hUm := hUm.tch0 hT134
          refine st (by rfl) (S_storeA (b := w131.heap.size) (j := 0) (cs := [.slice u.iA u.inp.length u.iC, .int .i64 u.pt, .int .i64 u.ms, .slice u.gA u.img.length u.gC, .int .i64 u.kd, .int .i64 u.cd]) (by kernel_rfl) (by kernel_rfl) (by kernel_rfl) (by simp [oneV]) hB136 (by simp) fun w140 hT141 hs142 hB136' => ?_)
          have hT0 := (hT0).then hT141 (fun c e => by have : c = w131.heap.size := e; omega)
          have hB4 := hB4.tch hT141 (hB4.ne hB136 (by decide))
          have hQ4 := hQ4.tch hT141 (hQ4.ne hB136 (by decide))
          have hO := hO.tch hT141 (fun c hc e => by have h1 := lR_hO c hc; have : c = w131.heap.size := e; omega)
          have hEl := hEl.st2 hT141 (fun t ht b hb e => by have e : b = w131.heap.size := e; first | (have h1 := ((hEl t ht).2 b hb).1; omega) | (have h2 := hElt t ht b hb; omega))
          have hzW := Nat.le_trans hzW hT141.size
          have hUm := hUm.tch hT141 (fun b hb e => by have e : b = w131.heap.size := e; first | (have h1 := hUf b hb; omega) | (have h2 := hUlt b hb; omega))
          replace hB136 : Blk w140 w131.heap.size 43 [.slice u.iA u.inp.length u.iC, .int .i64 u.pt, .int .i64 u.ms, .slice u.gA u.img.length u.gC, .int .i64 u.kd, .int .i64 u.cd] := hB136'
          refine zS [(10, .string (bsT (p1r (pl j (hT s))))), (11, .bool (p1b (pl j (hT s))))] ?_
          refine op_nil ?_
          refine W_seq ?_
          refine W_seq ?_
          refine zF [(0, .string (bsT (pl j (hT s)))), (2, .pointer (some ⟨w.heap.size, 0, none⟩)), (4, .pointer (some ⟨w1.heap.size, 0, none⟩)), (7, .int .i64 ((hN s : Nat) : Int)), (8, .int .i64 ((j : Nat) : Int)), (9, .pointer (some ⟨w131.heap.size, 0, none⟩)), (10, .string (bsT (p1r (pl j (hT s))))), (11, .bool (p1b (pl j (hT s)))), (68, .bool (decide (((j : Nat) : Int) < ((hN s : Nat) : Int))))] fun ρ => ?_
          refine zR ?_
          refine zS [(77, .bool (p1b (pl j (hT s)))), (78, .bool (!(p1b (pl j (hT s)))))] ?_
          refine zO (!(p1b (pl j (hT s)))) (fun hc143 => ?_) (fun hc143 => ?_)
          ·
           replace hc143 : p1b (pl j (hT s)) = false := ((not_t hc143))
           refine zQ ?_
           refine zS [(79, .agg #[.int .i64 0, .int .i64 0, .slice none 0 0, .int .i64 0, .int .i64 0])] ?_
           refine st (by rfl) (S_storeA (b := w.heap.size) (j := 0) (cs := [.int .i64 0, .int .i64 0, .slice none 0 0, .int .i64 0, .int .i64 0]) (by kernel_rfl) (by kernel_rfl) (by kernel_rfl) (by simp [oneV]) hB4 (by simp) fun w144 hT145 hs146 hB4' => ?_)
           have hT0 := (hT0).then hT145 (fun c e => by have : c = w.heap.size := e; omega)
           have hQ4 := hQ4.tch hT145 (fun e => by have : w1.heap.size = w.heap.size := e; omega)
           have hO := hO.tch hT145 (fun c hc e => hO.blk_ne hB4 (by decide) c hc e)
           have hEl := hEl.st2 hT145 (fun t ht b hb e => by have e : b = w.heap.size := e; first | (have h1 := ((hEl t ht).2 b hb).1; omega) | (have h2 := hElt t ht b hb; omega))
           have hzW := Nat.le_trans hzW hT145.size
           have hUm := hUm.tch hT145 (fun b hb e => by have e : b = w.heap.size := e; first | (have h1 := hUf b hb; omega) | (have h2 := hUlt b hb; omega))
           have hB136 := hB136.tch hT145 (hB136.ne hB4 (by decide))
           replace hB4 : Blk w144 w.heap.size 25 [.int .i64 0, .int .i64 0, .slice none 0 0, .int .i64 0, .int .i64 0] := hB4'
           refine zS [(3, .int .i64 6)] ?_
           refine op_nil ?_
           refine W_ret ?_
           refine ⟨_, Res_cell1 (b := w.heap.size) (cs := [.int .i64 0, .int .i64 0, .slice none 0 0, .int .i64 0, .int .i64 0]) (by rfl) (by kernel_rfl) (by kernel_rfl) (by kernel_rfl) hB4 (by kernel_rfl) (by kernel_rfl), ?_⟩
           have hc : code s = 6 := by unfold code; first | (exfalso; omega) | (rw [if_pos (by omega)]) | (rw [if_neg (by omega), if_pos (by omega)]) | (rw [if_neg (by omega), if_neg (by omega), if_pos (by omega)]) | (rw [if_neg (by omega), if_neg (by omega), if_neg (by omega), if_pos (by omega)]) | (rw [if_neg (by omega), if_neg (by omega), if_neg (by omega), if_neg (by omega), if_pos (by omega)]) | (rw [if_neg (by omega), if_neg (by omega), if_neg (by omega), if_neg (by omega), if_neg (by omega), if_pos (by omega)]) | (rw [if_neg (by omega), if_neg (by omega), if_neg (by omega), if_neg (by omega), if_neg (by omega), if_neg (by omega), if_pos (okN_f (j := j) (by omega) (by assumption))]) | (rw [if_neg (by omega), if_neg (by omega), if_neg (by omega), if_neg (by omega), if_neg (by omega), if_neg (by omega), if_neg (okN_t (fun i h => hokj i (by omega))), if_pos (by rw [show hN s = j by omega]; omega)]) | (rw [if_neg (by omega), if_neg (by omega), if_neg (by omega), if_neg (by omega), if_neg (by omega), if_neg (by omega), if_neg (okN_t (fun i h => hokj i (by omega))), if_neg (by rw [show hN s = j by omega]; omega)])
           have hr := rep_f (s := s) (by rw [hc]; decide)
           refine ⟨none, 0, [], by rw [hc, hr.1, hr.2.1, hr.2.2.1, hr.2.2.2.1]; rfl, TsW.nil_ _ _, hr.2.2.2.2.symm, TsB.nil_ _ _ _, hT0⟩
          ·
           replace hc143 : p1b (pl j (hT s)) = true := ((not_f hc143))
           refine W_skip ?_
           refine zQ ?_
           refine zS [(80, .pointer (some ⟨w1.heap.size, 2, none⟩))] ?_
           refine zL (.slice B n cb) ((hQ4.cell 2).trans rfl) ?_
           refine st (by rfl) (S_val (v := .agg #[.slice u.iA u.inp.length u.iC, .int .i64 u.pt, .int .i64 u.ms, .slice u.gA u.img.length u.gC, .int .i64 u.kd, .int .i64 u.cd]) (R_loadA [.slice u.iA u.inp.length u.iC, .int .i64 u.pt, .int .i64 u.ms, .slice u.gA u.img.length u.gC, .int .i64 u.kd, .int .i64 u.cd] (by kernel_rfl) (by kernel_rfl) (by kernel_rfl) (fun k u hk => by rw [hB136.cell]; exact get_part _ 0 _ k u rfl hk)) ?_)
           have hz151 := hT0.size
           have lt152 := hB4.lt
           have lt153 := hQ4.lt
           have lR_hO := hO.lt
           have lt154 := hB136.lt
           have hElt : ∀ t, t ∈ L → ∀ b, t.has b → b < w140.heap.size := fun t ht b hb => (hEl t ht).1.lt b hb
           have hUlt := hUm.lt
           refine st (by rfl) (S_new (v := .slice (some ⟨w140.heap.size, 0, none⟩) 1 1) (ob := .cells #[.slice u.iA u.inp.length u.iC, .int .i64 u.pt, .int .i64 u.ms, .slice u.gA u.img.length u.gC, .int .i64 u.kd, .int .i64 u.cd] 43) (by kernel_rfl) fun w147 hT148 hs149 hB150 => ?_)
           replace hB150 : Blk w147 (w140.heap.size) 43 [.slice u.iA u.inp.length u.iC, .int .i64 u.pt, .int .i64 u.ms, .slice u.gA u.img.length u.gC, .int .i64 u.kd, .int .i64 u.cd] := hB150
           have hT0 := hT0.t0 hT148
           have hB4 := hB4.tch0 hT148
           have hQ4 := hQ4.tch0 hT148
           have hO := hO.tch0 hT148
           have hEl := hEl.tch0 hT148
           have hzW := Nat.le_trans hzW hT148.size
           have hUm := hUm.tch0 hT148
           have hB136 := hB136.tch0 hT148
           have hz_ := hT0.size
           have lt_hB4 := hB4.lt
           have lt_hQ4 := hQ4.lt
           have lt_hB136 := hB136.lt
           have lt_hB150 := hB150.lt
           have lR_hO := hO.lt
           refine st (by rfl) (S_appendR 23 43 (.agg #[.slice none 0 0, .int .i64 0, .int .i64 0, .slice none 0 0, .int .i64 0, .int .i64 0]) 6 80 (n := n) (m := 1) (A := B) (cp := cb) (cells := tcs L) (news := [.slice u.iA u.inp.length u.iC, .int .i64 u.pt, .int .i64 u.ms, .slice u.gA u.img.length u.gC, .int .i64 u.kd, .int .i64 u.cd]) (b := w140.heap.size) (off := 0) (c := 1) (by kernel_rfl) (by kernel_rfl) (by decide) (by kernel_rfl) (by kernel_rfl) (by kernel_rfl) hO (by rfl) (fun k u hk => by rw [Nat.zero_add, hB150.cell]; exact hk) (by simp [oneV]) (by simp only [maxLen]; omega) (by omega) fun A155 c155 w155 hO155 hw155 hT155 => ?_)
           have hEl9 : TsE w155 (L ++ [u]) (.slice A155 (n + 1) c155) (w1.heap.size + 1) := hEl.app hT155 hw155 hUm (fun b hb => ⟨by have := hUf b hb; omega, fun e => by have h1 := hUf b hb; have h2 := lU_hO b e; omega⟩)
           have hzW0 := hzW
           have hT0 := (hT0).then hT155 (fun c e => by have := nB_hO c e; omega)
           have hB4 := hB4.tch hT155 (fun e => hO.blk_ne hB4 (by decide) _ e rfl)
           have hQ4 := hQ4.tch hT155 (fun e => hO.blk_ne hQ4 (by decide) _ e rfl)
           have hzW := Nat.le_trans hzW hT155.size
           have hO : Own w155 0 43 6 (.slice A155 (n + 1) c155) (n + 1) (tcs (L ++ [u])) := by rw [tcs_snoc]; exact hO155
           have nB_hO : ∀ c, (Value.slice A155 (n + 1) c155).ownBlock = some c → w1.heap.size + 1 ≤ c := fun c hc => (hw155 c hc).elim (nB_hO c) (fun q => by omega)
           have hEl := hEl9
           refine zS [(85, .pointer (some ⟨w1.heap.size, 2, none⟩))] ?_
           refine st (by rfl) (S_store (b := w1.heap.size) (j := 2) (v := .slice A155 (n + 1) c155) (by kernel_rfl) (by kernel_rfl) (by kernel_rfl) (by rfl) hQ4 (by simp) fun w156 hT157 hs158 hQ4' => ?_)
           have hT0 := (hT0).then hT157 (fun c e => by have : c = w1.heap.size := e; omega)
           have hB4 := hB4.tch hT157 (fun e => by have : w.heap.size = w1.heap.size := e; omega)
           have hzW := Nat.le_trans hzW hT157.size
           have hO := hO.tch hT157 (fun c hc e => hO.blk_ne hQ4 (by decide) c hc e)
           have hEl := hEl.st2 hT157 (fun t ht b hb e => by have e : b = w1.heap.size := e; first | (have h1 := ((hEl t ht).2 b hb).1; omega) | (have h2 := hElt t ht b hb; omega))
           replace hQ4 : Blk w156 w1.heap.size 25 [.int .i64 ((hV s : Nat) : Int), .int .i64 ((hE s : Nat) : Int), .slice A155 (n + 1) c155, .int .i64 ((hS s : Nat) : Int), .int .i64 ((hU s : Nat) : Int)] := hQ4'
           refine op_nil ?_
           refine zF [(0, .string (bsT (pl j (hT s)))), (2, .pointer (some ⟨w.heap.size, 0, none⟩)), (4, .pointer (some ⟨w1.heap.size, 0, none⟩)), (7, .int .i64 ((hN s : Nat) : Int)), (8, .int .i64 ((j : Nat) : Int)), (9, .pointer (some ⟨w131.heap.size, 0, none⟩)), (10, .string (bsT (p1r (pl j (hT s))))), (11, .bool (p1b (pl j (hT s)))), (68, .bool (decide (((j : Nat) : Int) < ((hN s : Nat) : Int)))), (78, .bool (!(p1b (pl j (hT s)))))] fun ρ => ?_
           refine zR ?_
           refine zS [(86, .string (bsT (p1r (pl j (hT s))))), (0, .string (bsT (p1r (pl j (hT s)))))] ?_
           refine op_nil ?_
           refine zR ?_
           refine zS [(69, .int .i64 ((j : Nat) : Int)), (70, .int .i64 (IntKind.i64.wrap (((j : Nat) : Int) + 1)))] ?_
           rw [show IntKind.i64.wrap (((j : Nat) : Int) + 1) = ((j : Nat) : Int) + 1 from wrap_i64 (by omega) (by omega)]
           refine fixR (y := ((j + 1 : Nat) : Int)) (by omega) ?_
           refine zS [(8, .int .i64 ((j + 1 : Nat) : Int))] ?_
           refine op_nil ?_
           refine ⟨_, (by omega), A155, n + 1, c155, j + 1, L ++ [u], _, updL_self (by kernel_rfl), (by omega), (by omega), (by rw [List.length_append]; simp only [List.length_cons, List.length_nil]; omega), (by rw [cores_snoc, pc_step, hcL, hUc (by assumption)]), (fun i h => (Nat.lt_or_eq_of_le (Nat.le_of_lt_succ h)).elim (hokj i) (fun e => by rw [e]; assumption)), nB_hO, hT0, hB4, hQ4, hO, hEl, hzW, rfl⟩
         ·
          replace hc130 : ((hN s : Nat) : Int) ≤ ((j : Nat) : Int) := (Int.not_lt.1 (of_decide_eq_false hc130))
          refine W_exit ?_
          refine X_hit ?_
          refine W_seq ?_
          refine zQ ?_
          refine zS [(87, .string (bsT (pl j (hT s)))), (88, .int .i64 (((pl j (hT s)).length : Nat) : Int)), (89, .bool (decide ((((pl j (hT s)).length : Nat) : Int) > 0)))] ?_
          refine zO (decide ((((pl j (hT s)).length : Nat) : Int) > 0)) (fun hc159 => ?_) (fun hc159 => ?_)
          ·
           replace hc159 : 0 < (((pl j (hT s)).length : Nat) : Int) := (of_decide_eq_true hc159)
           refine zQ ?_
           refine zS [(90, .agg #[.int .i64 0, .int .i64 0, .slice none 0 0, .int .i64 0, .int .i64 0])] ?_
           refine st (by rfl) (S_storeA (b := w.heap.size) (j := 0) (cs := [.int .i64 0, .int .i64 0, .slice none 0 0, .int .i64 0, .int .i64 0]) (by kernel_rfl) (by kernel_rfl) (by kernel_rfl) (by simp [oneV]) hB4 (by simp) fun w160 hT161 hs162 hB4' => ?_)
           have hT0 := (hT0).then hT161 (fun c e => by have : c = w.heap.size := e; omega)
           have hQ4 := hQ4.tch hT161 (fun e => by have : w1.heap.size = w.heap.size := e; omega)
           have hO := hO.tch hT161 (fun c hc e => hO.blk_ne hB4 (by decide) c hc e)
           have hEl := hEl.st2 hT161 (fun t ht b hb e => by have e : b = w.heap.size := e; first | (have h1 := ((hEl t ht).2 b hb).1; omega) | (have h2 := hElt t ht b hb; omega))
           have hzW := Nat.le_trans hzW hT161.size
           replace hB4 : Blk w160 w.heap.size 25 [.int .i64 0, .int .i64 0, .slice none 0 0, .int .i64 0, .int .i64 0] := hB4'
           refine zS [(3, .int .i64 5)] ?_
           refine op_nil ?_
           refine W_ret ?_
           refine ⟨_, Res_cell1 (b := w.heap.size) (cs := [.int .i64 0, .int .i64 0, .slice none 0 0, .int .i64 0, .int .i64 0]) (by rfl) (by kernel_rfl) (by kernel_rfl) (by kernel_rfl) hB4 (by kernel_rfl) (by kernel_rfl), ?_⟩
           have hc : code s = 5 := by unfold code; first | (exfalso; omega) | (rw [if_pos (by omega)]) | (rw [if_neg (by omega), if_pos (by omega)]) | (rw [if_neg (by omega), if_neg (by omega), if_pos (by omega)]) | (rw [if_neg (by omega), if_neg (by omega), if_neg (by omega), if_pos (by omega)]) | (rw [if_neg (by omega), if_neg (by omega), if_neg (by omega), if_neg (by omega), if_pos (by omega)]) | (rw [if_neg (by omega), if_neg (by omega), if_neg (by omega), if_neg (by omega), if_neg (by omega), if_pos (by omega)]) | (rw [if_neg (by omega), if_neg (by omega), if_neg (by omega), if_neg (by omega), if_neg (by omega), if_neg (by omega), if_pos (okN_f (j := j) (by omega) (by assumption))]) | (rw [if_neg (by omega), if_neg (by omega), if_neg (by omega), if_neg (by omega), if_neg (by omega), if_neg (by omega), if_neg (okN_t (fun i h => hokj i (by omega))), if_pos (by rw [show hN s = j by omega]; omega)]) | (rw [if_neg (by omega), if_neg (by omega), if_neg (by omega), if_neg (by omega), if_neg (by omega), if_neg (by omega), if_neg (okN_t (fun i h => hokj i (by omega))), if_neg (by rw [show hN s = j by omega]; omega)])
           have hr := rep_f (s := s) (by rw [hc]; decide)
           refine ⟨none, 0, [], by rw [hc, hr.1, hr.2.1, hr.2.2.1, hr.2.2.2.1]; rfl, TsW.nil_ _ _, hr.2.2.2.2.symm, TsB.nil_ _ _ _, hT0⟩
          ·
           replace hc159 : (((pl j (hT s)).length : Nat) : Int) ≤ 0 := (Int.not_lt.1 (of_decide_eq_false hc159))
           refine W_skip ?_
           refine zQ ?_
           refine st (by rfl) (S_val (v := .agg #[.int .i64 ((hV s : Nat) : Int), .int .i64 ((hE s : Nat) : Int), .slice B n cb, .int .i64 ((hS s : Nat) : Int), .int .i64 ((hU s : Nat) : Int)]) (R_loadA [.int .i64 ((hV s : Nat) : Int), .int .i64 ((hE s : Nat) : Int), .slice B n cb, .int .i64 ((hS s : Nat) : Int), .int .i64 ((hU s : Nat) : Int)] (by kernel_rfl) (by kernel_rfl) (by kernel_rfl) (fun k u hk => by rw [hQ4.cell]; exact get_part _ 0 _ k u rfl hk)) ?_)
           refine st (by rfl) (S_storeA (b := w.heap.size) (j := 0) (cs := [.int .i64 ((hV s : Nat) : Int), .int .i64 ((hE s : Nat) : Int), .slice B n cb, .int .i64 ((hS s : Nat) : Int), .int .i64 ((hU s : Nat) : Int)]) (by kernel_rfl) (by kernel_rfl) (by kernel_rfl) (by simp [oneV]) hB4 (by simp) fun w163 hT164 hs165 hB4' => ?_)
           have hT0 := (hT0).then hT164 (fun c e => by have : c = w.heap.size := e; omega)
           have hQ4 := hQ4.tch hT164 (fun e => by have : w1.heap.size = w.heap.size := e; omega)
           have hO := hO.tch hT164 (fun c hc e => hO.blk_ne hB4 (by decide) c hc e)
           have hEl := hEl.st2 hT164 (fun t ht b hb e => by have e : b = w.heap.size := e; first | (have h1 := ((hEl t ht).2 b hb).1; omega) | (have h2 := hElt t ht b hb; omega))
           have hzW := Nat.le_trans hzW hT164.size
           replace hB4 : Blk w163 w.heap.size 25 [.int .i64 ((hV s : Nat) : Int), .int .i64 ((hE s : Nat) : Int), .slice B n cb, .int .i64 ((hS s : Nat) : Int), .int .i64 ((hU s : Nat) : Int)] := hB4'
           refine zS [(3, .int .i64 0)] ?_
           refine op_nil ?_
           refine W_ret ?_
           refine ⟨_, Res_cell1 (b := w.heap.size) (cs := [.int .i64 ((hV s : Nat) : Int), .int .i64 ((hE s : Nat) : Int), .slice B n cb, .int .i64 ((hS s : Nat) : Int), .int .i64 ((hU s : Nat) : Int)]) (by rfl) (by kernel_rfl) (by kernel_rfl) (by kernel_rfl) hB4 (by kernel_rfl) (by kernel_rfl), ?_⟩
           have hc : code s = 0 := by unfold code; first | (exfalso; omega) | (rw [if_pos (by omega)]) | (rw [if_neg (by omega), if_pos (by omega)]) | (rw [if_neg (by omega), if_neg (by omega), if_pos (by omega)]) | (rw [if_neg (by omega), if_neg (by omega), if_neg (by omega), if_pos (by omega)]) | (rw [if_neg (by omega), if_neg (by omega), if_neg (by omega), if_neg (by omega), if_pos (by omega)]) | (rw [if_neg (by omega), if_neg (by omega), if_neg (by omega), if_neg (by omega), if_neg (by omega), if_pos (by omega)]) | (rw [if_neg (by omega), if_neg (by omega), if_neg (by omega), if_neg (by omega), if_neg (by omega), if_neg (by omega), if_pos (okN_f (j := j) (by omega) (by assumption))]) | (rw [if_neg (by omega), if_neg (by omega), if_neg (by omega), if_neg (by omega), if_neg (by omega), if_neg (by omega), if_neg (okN_t (fun i h => hokj i (by omega))), if_pos (by rw [show hN s = j by omega]; omega)]) | (rw [if_neg (by omega), if_neg (by omega), if_neg (by omega), if_neg (by omega), if_neg (by omega), if_neg (by omega), if_neg (okN_t (fun i h => hokj i (by omega))), if_neg (by rw [show hN s = j by omega]; omega)])
           have hr := rep_t hc
           have hn2 : n = L.length := by omega
           subst hn2
           refine ⟨B, cb, L, by rw [hc, hr.1, hr.2.1, hr.2.2.1, hr.2.2.2.1]; rfl, ⟨hO.rdS, fun t ht => (hEl t ht).1⟩, by rw [hr.2.2.2.2, hcL, show hN s = j by omega], TsB.of hO hEl nB_hO (by omega), hT0⟩

end Go.Proofs.YtlkjhkennbdbnaaV
