/- Texts laid together: Walks of functions of the program and of the document's texts. The conditions stand with each theorem. Walks of functions of the program and of the document's texts. The conditions stand with each theorem. Walks of functions of the program and of the document's texts. The conditions stand with each theorem. Walks of functions of the program and of the document's texts. The conditions stand with each theorem. -/
import Derived.Test.YtlkjhkennbdbnaaJRrepo32x1
import Derived.Test.YtlkjhkennbdbnaaProg
import Derived.Test.YtlkjhkennbdbnaaJRrepo32x4
set_option linter.unusedVariables false
set_option linter.unusedSimpArgs false
namespace Go.Proofs.YtlkjhkennbdbnaaV
open Go Go.RowKit Go.Proofs

def pl : Nat → Tx → Tx
 | 0, t => t
 | j + 1, t => p1r (pl j t)
def pc (j : Nat) (t : Tx) : List Co := (List.range j).map (fun i => p1c (pl i t))
theorem pc_step (j : Nat) (t : Tx) : pc (j + 1) t = pc j t ++ [p1c (pl j t)] := by simp [pc, List.range_succ]
def okN (n : Nat) (t : Tx) : Bool := (List.range n).all (fun i => p1b (pl i t))
theorem okN_f {n j : Nat} {t : Tx} (hj : j < n) (h : p1b (pl j t) = false) : okN n t = false := by
 unfold okN
 rw [List.all_eq_false]
 exact ⟨j, List.mem_range.2 hj, by rw [h]; decide⟩
theorem okN_t {n : Nat} {t : Tx} (h : ∀ i, i < n → p1b (pl i t) = true) : ¬ okN n t = false := by
 unfold okN
 rw [List.all_eq_false]
 rintro ⟨i, hi, h2⟩
 exact h2 (h i (List.mem_range.1 hi))
def hV (s : Tx) : Nat := (s.getD 0 0).toNat
def hE (s : Tx) : Nat := (s.getD 1 0).toNat
def hS (s : Tx) : Nat := vl ((s.drop 2).take 4)
def hU (s : Tx) : Nat := rn 4 (s.drop 6)
def hR (s : Tx) : Tx := rr 4 (s.drop 6)
def hN (s : Tx) : Nat := rn 2 (hR s)
def hT (s : Tx) : Tx := rr 2 (hR s)
def code (s : Tx) : Int := if 0 < s.length ∧ 3 < hV s then 4 else if s.length < 6 then 6 else if 1073741824 < hS s then 4 else if s.length - 6 < 4 then 6 else if 1073741824 < hU s then 4 else if (hR s).length < 2 then 6 else if okN (hN s) (hT s) = false then 6 else if 0 < (pl (hN s) (hT s)).length then 5 else 0
def rV (s : Tx) : Int := if code s = 0 then ((hV s : Nat) : Int) else 0
def rE (s : Tx) : Int := if code s = 0 then ((hE s : Nat) : Int) else 0
def rS (s : Tx) : Int := if code s = 0 then ((hS s : Nat) : Int) else 0
def rU (s : Tx) : Int := if code s = 0 then ((hU s : Nat) : Int) else 0
def rL (s : Tx) : List Co := if code s = 0 then pc (hN s) (hT s) else []
theorem rep_f {s : Tx} (h : code s ≠ 0) : rV s = 0 ∧ rE s = 0 ∧ rS s = 0 ∧ rU s = 0 ∧ rL s = [] := by
 unfold rV rE rS rU rL
 rw [if_neg h, if_neg h, if_neg h, if_neg h, if_neg h]; exact ⟨rfl, rfl, rfl, rfl, rfl⟩
theorem rep_t {s : Tx} (h : code s = 0) : rV s = ((hV s : Nat) : Int) ∧ rE s = ((hE s : Nat) : Int) ∧ rS s = ((hS s : Nat) : Int) ∧ rU s = ((hU s : Nat) : Int) ∧ rL s = pc (hN s) (hT s) := by
 unfold rV rE rS rU rL
 rw [if_pos h, if_pos h, if_pos h, if_pos h, if_pos h]; exact ⟨rfl, rfl, rfl, rfl, rfl⟩
/-- Tests in a row that grows: each reads, and lies apart from the row. -/
def TsE (w : World) (L : List T6) (Y : Value) (base : Nat) : Prop := ∀ t, t ∈ L → TmW w t ∧ ∀ b, t.has b → base ≤ b ∧ Y.ownBlock ≠ some b
theorem TsE.tch0 {w w' : World} {L : List T6} {Y : Value} {base : Nat} (h : TsE w L Y base) (k : Tch N0 w w') : TsE w' L Y base := fun t ht => ⟨(h t ht).1.tch0 k, (h t ht).2⟩
theorem TsE.st {S : Nat → Prop} {w w' : World} {L : List T6} {Y : Value} {base : Nat} (h : TsE w L Y base) (k : Tch S w w') (hs : ∀ b, base ≤ b → ¬ S b) : TsE w' L Y base :=
 fun t ht => ⟨(h t ht).1.tch k (fun b hb => hs b ((h t ht).2 b hb).1), (h t ht).2⟩
theorem TsE.st2 {S : Nat → Prop} {w w' : World} {L : List T6} {Y : Value} {base : Nat} (h : TsE w L Y base) (k : Tch S w w') (hs : ∀ t, t ∈ L → ∀ b, t.has b → ¬ S b) : TsE w' L Y base :=
 fun t ht => ⟨(h t ht).1.tch k (fun b hb => hs t ht b hb), (h t ht).2⟩
theorem TsE.app {w w' : World} {L : List T6} {A A2 : Option Addr} {n n2 cp cp2 base : Nat} {u : T6} (h : TsE w L (.slice A n cp) base) (k : Tch (ownS (.slice A n cp)) w w') (hw : ∀ c, (Value.slice A2 n2 cp2).ownBlock = some c → (Value.slice A n cp).ownBlock = some c ∨ c = w.heap.size)
  (hu : TmW w u) (hf : ∀ b, u.has b → base ≤ b ∧ (Value.slice A n cp).ownBlock ≠ some b) : TsE w' (L ++ [u]) (.slice A2 n2 cp2) base := by
 have key : ∀ t, TmW w t → (∀ b, t.has b → base ≤ b ∧ (Value.slice A n cp).ownBlock ≠ some b) → TmW w' t ∧ ∀ b, t.has b → base ≤ b ∧ (Value.slice A2 n2 cp2).ownBlock ≠ some b := fun t h1 h2 =>
  ⟨h1.tch k (fun b hb e => (h2 b hb).2 e), fun b hb => ⟨(h2 b hb).1, fun e => (hw b e).elim (h2 b hb).2 (fun q => by have := h1.lt b hb; omega)⟩⟩
 intro t ht
 rcases List.mem_append.1 ht with q | q
 ·
  exact key t (h t q).1 (h t q).2
 ·
  rw [List.mem_singleton] at q
  subst q; exact key t hu hf
/-- The blocks of a row of tests lie between. -/
def TsB (A : Option Addr) (l : List T6) (k m : Nat) : Prop := (0 < l.length → ∀ b o s, A = some ⟨b, o, s⟩ → k ≤ b ∧ b < m) ∧ ∀ t, t ∈ l → ∀ b, t.has b → k ≤ b ∧ b < m
theorem TsB.nil_ (A : Option Addr) (k m : Nat) : TsB A [] k m := ⟨fun h => absurd h (by decide), fun t h => by cases h⟩
theorem TsB.of {w : World} {A : Option Addr} {n cp base k : Nat} {cells : List Value} {L : List T6} {Y : Value} (hO : Own w 0 43 6 (.slice A n cp) n cells) (hE : TsE w L Y base) (nB : ∀ c, (Value.slice A n cp).ownBlock = some c → base ≤ c) (hk : k ≤ base) : TsB A L k w.heap.size := by
 refine ⟨fun h b o s e => ?_, fun t ht b hb => ⟨Nat.le_trans hk ((hE t ht).2 b hb).1, (hE t ht).1.lt b hb⟩⟩
 subst e
 exact ⟨Nat.le_trans hk (nB b rfl), hO.lt b rfl⟩
theorem TsW.tchB {S : Nat → Prop} {w w' : World} {A : Option Addr} {l : List T6} {k m : Nat} (h : TsW w A l) (hb : TsB A l k m) (T : Tch S w w') (hs : ∀ b, k ≤ b → b < m → ¬ S b) : TsW w' A l :=
 ⟨h.rd.tchB T (fun hn b o s e => hs b (hb.1 hn b o s e).1 (hb.1 hn b o s e).2), fun t ht => (h.el t ht).tch T (fun b hx => hs b (hb.2 t ht b hx).1 (hb.2 t ht b hx).2)⟩
theorem TsB.up {A : Option Addr} {l : List T6} {k k2 m m2 : Nat} (h : TsB A l k m) (h1 : k2 ≤ k) (h2 : m ≤ m2) : TsB A l k2 m2 :=
 ⟨fun hn b o s e => ⟨Nat.le_trans h1 (h.1 hn b o s e).1, Nat.lt_of_lt_of_le (h.1 hn b o s e).2 h2⟩, fun t ht b hb => ⟨Nat.le_trans h1 (h.2 t ht b hb).1, Nat.lt_of_lt_of_le (h.2 t ht b hb).2 h2⟩⟩
theorem tcs_snoc (L : List T6) (u : T6) : tcs (L ++ [u]) = tcs L ++ tc u := by rw [tcs_app]; simp [tcs]
theorem cores_snoc (L : List T6) (u : T6) : cores (L ++ [u]) = cores L ++ [core u] := by simp [cores]
end Go.Proofs.YtlkjhkennbdbnaaV

set_option linter.unusedVariables false
set_option linter.unusedSimpArgs false
namespace Go.Proofs.YtlkjhkennbdbnaaV
open Go Go.RowKit Go.Proofs

def shT : Tx := [116, 111, 111, 32, 115, 104, 111, 114, 116]
def rgT : Tx := [111, 117, 116, 32, 111, 102, 32, 114, 97, 110, 103, 101]
def fmT : Tx := [98, 121, 116, 101, 115, 32, 108, 101, 102, 116]
def evO : Option Tx → Value
 | none => .nilIface
 | some e => .iface 72 (.string (bsT e))
abbrev St := Tx × Option Tx
def tk (x : St) (k : Nat) : Tx := if x.2.isSome = true ∨ x.1.length < k then [] else x.1.take k
def nx (x : St) (k : Nat) : St := if x.2.isSome = true then x else if x.1.length < k then (x.1, some shT) else (x.1.drop k, none)
def nu (x : St) (k : Nat) : Nat := vl (tk x k)
def bl (x : St) (k m : Nat) : St := if (nx x k).2.isSome = false ∧ m < nu x k then ((nx x k).1, some rgT) else nx x k
theorem tk_le (x : St) (k : Nat) : (tk x k).length ≤ k := by
 unfold tk; split
 ·
  simp
 ·
  rw [List.length_take]; omega
theorem nu_lt (x : St) (k : Nat) : nu x k < 256 ^ k := vl_le k (tk_le x k)
theorem nu_1 (x : St) : nu x 1 < 256 := nu_lt x 1
theorem nu_2 (x : St) : nu x 2 < 65536 := nu_lt x 2
theorem nu_4 (x : St) : nu x 4 < 4294967296 := nu_lt x 4
theorem nu_8 (x : St) : nu x 8 < 18446744073709551616 := nu_lt x 8
theorem R_evEql {ρ : Env} {w : World} {d : Option Tmp} {u : TypeId} {r : Tmp} {ty : TypeId} {pos : String} {af : Array Edge} {g : Option (Nat × Bool)} {E : Option Tx} (hx : evR ρ (.tmp r) = evO E) :
  (execOp (evR ρ) ⟨d, .binOp .eql 57 (.tmp r) (.const .nilIface) u, ty, pos, af, g⟩).run Try.prog w = .ok (.value (.bool (!E.isSome))) w := by
 refine pureR_run ?_
 simp only [execOp, hx]
 cases E <;> kernel_rfl

set_option maxRecDepth 100000 in
theorem take_n (q k : Nat) (s : Tx) (w : World) (hQ : Blk w q 69 [.string (bsT s), .nilIface]) : Ret Try.prog 60 [.pointer (some ⟨q, 0, none⟩), .int .i64 ((k : Nat) : Int)] w fun v w' => v = .string (bsT (tk (s, none) k)) ∧ Blk w' q 69 [.string (bsT (nx (s, none) k).1), evO (nx (s, none) k).2] ∧ Tch (one q) w w' := by
 have hTq := Tch.refl (one q) w
 refine enter Try.func60 rfl rfl ?_
 refine zQ ?_
 refine zS [(4, .string (bsT ([])))] ?_
 refine op_nil ?_
 refine W_seq ?_
 refine zQ ?_
 refine zS [(6, .pointer (some ⟨q, 0, none⟩)), (7, .pointer (some ⟨q, 0, none⟩)), (8, .pointer (some ⟨q, 1, none⟩))] ?_
 refine zL .nilIface ((hQ.cell 1).trans rfl) ?_
 refine zS [(10, .bool false)] ?_
 refine zO false (fun h => nomatch h) (fun _ => ?_)
 refine W_skip ?_
 refine W_seq ?_
 refine zQ ?_
 refine zS [(11, .pointer (some ⟨q, 0, none⟩)), (12, .pointer (some ⟨q, 0, none⟩)), (13, .pointer (some ⟨q, 0, none⟩))] ?_
 refine zL (.string (bsT s)) ((hQ.cell 0).trans rfl) ?_
 refine zS [(15, .int .i64 ((s.length : Nat) : Int)), (16, .int .i64 ((k : Nat) : Int)), (17, .bool (decide (((s.length : Nat) : Int) < ((k : Nat) : Int))))] ?_
 refine zO (decide (((s.length : Nat) : Int) < ((k : Nat) : Int))) (fun hc1 => ?_) (fun hc1 => ?_)
 ·
  replace hc1 : ((s.length : Nat) : Int) < ((k : Nat) : Int) := (of_decide_eq_true hc1)
  refine W_seq ?_
  refine zF [(0, .pointer (some ⟨q, 0, none⟩)), (1, .int .i64 ((k : Nat) : Int)), (4, .string (bsT ([]))), (10, .bool false), (17, .bool (decide (((s.length : Nat) : Int) < ((k : Nat) : Int))))] fun ρ => ?_
  refine zR ?_
  refine zS [(18, .pointer (some ⟨q, 0, none⟩)), (19, .iface 72 (.string (bsT ([116, 111, 111, 32, 115, 104, 111, 114, 116])))), (20, .pointer (some ⟨q, 0, none⟩)), (21, .pointer (some ⟨q, 1, none⟩))] ?_
  refine st (by rfl) (S_store (b := q) (j := 1) (v := .iface 72 (.string (bsT ([116, 111, 111, 32, 115, 104, 111, 114, 116])))) (by kernel_rfl) (by kernel_rfl) (by kernel_rfl) (by rfl) hQ (by simp) fun w2 hT3 hs4 hQ' => ?_)
  have hTq := hTq.trans hT3 (fun _ _ e => e) (fun b hb e => by first | exact e | (have e : b = q := e; omega))
  replace hQ : Blk w2 q 69 [.string (bsT s), .iface 72 (.string (bsT ([116, 111, 111, 32, 115, 104, 111, 114, 116])))] := hQ'
  refine op_nil ?_
  refine zQ ?_
  refine zS [(4, .string (bsT ([])))] ?_
  refine op_nil ?_
  refine W_ret ?_
  refine ⟨_, Res_of (v := .string (bsT ([]))) (by kernel_rfl), ?_⟩
  have e1 : tk (s, none) k = [] := by unfold tk; rw [if_pos (.inr (by show s.length < k; omega))]
  have e2 : nx (s, none) k = (s, some shT) := by unfold nx; rw [if_neg (by show ¬ (false = true); decide), if_pos (by show s.length < k; omega)]
  rw [e1, e2]
  exact ⟨rfl, hQ, hTq⟩
 ·
  replace hc1 : ((k : Nat) : Int) ≤ ((s.length : Nat) : Int) := (Int.not_lt.1 (of_decide_eq_false hc1))
  refine W_skip ?_
  refine W_seq ?_
  refine zF [(0, .pointer (some ⟨q, 0, none⟩)), (1, .int .i64 ((k : Nat) : Int)), (4, .string (bsT ([]))), (10, .bool false), (17, .bool (decide (((s.length : Nat) : Int) < ((k : Nat) : Int))))] fun ρ => ?_
  refine zR ?_
  refine zS [(22, .pointer (some ⟨q, 0, none⟩)), (23, .pointer (some ⟨q, 0, none⟩)), (24, .pointer (some ⟨q, 0, none⟩))] ?_
  refine zL (.string (bsT s)) ((hQ.cell 0).trans rfl) ?_
  refine zS [(26, .int .i64 ((k : Nat) : Int))] ?_
  refine stv (v := .string (bsT (s.take k))) (by rfl) (R_sslH (a := s) (i := ((k : Nat) : Int)) k (by kernel_rfl) (by kernel_rfl) (by kernel_rfl) rfl (by omega)) ?_
  refine zS [(5, .string (bsT (s.take k)))] ?_
  refine op_nil ?_
  refine zQ ?_
  refine zS [(28, .pointer (some ⟨q, 0, none⟩)), (29, .pointer (some ⟨q, 0, none⟩)), (30, .pointer (some ⟨q, 0, none⟩)), (31, .pointer (some ⟨q, 0, none⟩))] ?_
  refine zL (.string (bsT s)) ((hQ.cell 0).trans rfl) ?_
  refine zS [(33, .int .i64 ((k : Nat) : Int))] ?_
  refine stv (v := .string (bsT (s.drop k))) (by rfl) (R_sslL (a := s) (i := ((k : Nat) : Int)) k (by kernel_rfl) (by kernel_rfl) (by kernel_rfl) rfl (by omega)) ?_
  refine zS [(35, .pointer (some ⟨q, 0, none⟩)), (36, .pointer (some ⟨q, 0, none⟩))] ?_
  refine st (by rfl) (S_store (b := q) (j := 0) (v := .string (bsT (s.drop k))) (by kernel_rfl) (by kernel_rfl) (by kernel_rfl) (by rfl) hQ (by simp) fun w5 hT6 hs7 hQ' => ?_)
  have hTq := hTq.trans hT6 (fun _ _ e => e) (fun b hb e => by first | exact e | (have e : b = q := e; omega))
  replace hQ : Blk w5 q 69 [.string (bsT (s.drop k)), .nilIface] := hQ'
  refine op_nil ?_
  refine W_seq ?_
  refine zF [(0, .pointer (some ⟨q, 0, none⟩)), (1, .int .i64 ((k : Nat) : Int)), (4, .string (bsT ([]))), (5, .string (bsT (s.take k))), (10, .bool false), (17, .bool (decide (((s.length : Nat) : Int) < ((k : Nat) : Int))))] fun ρ => ?_
  refine zR ?_
  refine zS [(37, .string (bsT (s.take k))), (4, .string (bsT (s.take k)))] ?_
  refine op_nil ?_
  refine W_ret ?_
  refine ⟨_, Res_of (v := .string (bsT (s.take k))) (by kernel_rfl), ?_⟩
  have e1 : tk (s, none) k = s.take k := by unfold tk; rw [if_neg (by rintro (h | h); exact absurd h (by show ¬ (false = true); decide); have h : s.length < k := h; omega)]
  have e2 : nx (s, none) k = (s.drop k, none) := by unfold nx; rw [if_neg (by show ¬ (false = true); decide), if_neg (by show ¬ s.length < k; omega)]
  rw [e1, e2]
  exact ⟨rfl, hQ, hTq⟩

set_option maxRecDepth 100000 in
theorem take_e (q k : Nat) (s : Tx) (e : Tx) (w : World) (hQ : Blk w q 69 [.string (bsT s), .iface 72 (.string (bsT e))]) : Ret Try.prog 60 [.pointer (some ⟨q, 0, none⟩), .int .i64 ((k : Nat) : Int)] w fun v w' => v = .string (bsT (tk (s, some e) k)) ∧ Blk w' q 69 [.string (bsT (nx (s, some e) k).1), evO (nx (s, some e) k).2] ∧ Tch (one q) w w' := by
 have hTq := Tch.refl (one q) w
 refine enter Try.func60 rfl rfl ?_
 refine zQ ?_
 refine zS [(4, .string (bsT ([])))] ?_
 refine op_nil ?_
 refine W_seq ?_
 refine zQ ?_
 refine zS [(6, .pointer (some ⟨q, 0, none⟩)), (7, .pointer (some ⟨q, 0, none⟩)), (8, .pointer (some ⟨q, 1, none⟩))] ?_
 refine zL (.iface 72 (.string (bsT e))) ((hQ.cell 1).trans rfl) ?_
 refine zS [(10, .bool true)] ?_
 refine zO true (fun _ => ?_) (fun h => nomatch h)
 refine zQ ?_
 refine zS [(4, .string (bsT ([])))] ?_
 refine op_nil ?_
 refine W_ret ?_
 exact ⟨_, Res_of (v := .string (bsT ([]))) (by kernel_rfl), ⟨rfl, hQ, hTq⟩⟩

theorem take_ok (q k : Nat) (x : St) (w : World) (hQ : Blk w q 69 [.string (bsT x.1), evO x.2]) : Ret Try.prog 60 [.pointer (some ⟨q, 0, none⟩), .int .i64 ((k : Nat) : Int)] w fun v w' => v = .string (bsT (tk x k)) ∧ Blk w' q 69 [.string (bsT (nx x k).1), evO (nx x k).2] ∧ Tch (one q) w w' := by
 obtain ⟨s, e⟩ := x
 cases e with
 | none => exact take_n q k s w hQ
 | some e => exact take_e q k s e w hQ

set_option maxRecDepth 100000 in
theorem num_ok (q k : Nat) (x : St) (w : World) (hQ : Blk w q 69 [.string (bsT x.1), evO x.2]) (hk : k ≤ 8) : Ret Try.prog 50 [.pointer (some ⟨q, 0, none⟩), .int .i64 ((k : Nat) : Int)] w fun v w' => v = .int .u64 ((nu x k : Nat) : Int) ∧ Blk w' q 69 [.string (bsT (nx x k).1), evO (nx x k).2] ∧ Tch (one q) w w' := by
 have hTq := Tch.refl (one q) w
 have hkl := tk_le x k
 refine enter Try.func50 rfl rfl ?_
 refine zQ ?_
 refine zS [(4, .int .u64 0)] ?_
 refine op_nil ?_
 refine zQ ?_
 refine zS [(5, .int .u64 0)] ?_
 refine op_nil ?_
 refine W_seq ?_
 refine zQ ?_
 refine zS [(8, .pointer (some ⟨q, 0, none⟩)), (9, .int .i64 ((k : Nat) : Int))] ?_
 refine zC (take_ok (q) k x _ hQ) ?_
 rintro _ w1 ⟨rfl, hQn, hT2⟩
 have hTq := hTq.trans hT2 (fun _ _ e => e) (fun b hb e => by first | exact e | (have e : b = q := e; omega))
 have hQ : Blk w1 (q) 69 [.string (bsT ((nx x k).1)), (evO (nx x k).2)] := hQn
 have hkl := tk_le x k
 refine st (by rfl) (S_s2b (src := 9) (dst := 39) (e := 5) (a := tk x k) (by kernel_rfl) (by kernel_rfl) (by kernel_rfl) (by kernel_rfl) (by omega) fun cp3 w3 hT3 hs3 hI => ?_)
 have hTq := hTq.then0 hT3
 have hQ := hQ.tch0 hT3
 refine zS [(12, .int .i64 (List.length (tk x k) : Int)), (13, .int .i64 0)] ?_
 refine op_nil ?_
 refine W_block ?_
 refine W_loop (fun m ρ w' => ∃ (j : Nat) (ρ0 : Env), ρ = updL ρ0 [(5, .int .u64 ((vl ((tk x k).take j) : Nat) : Int)), (11, .slice (some ⟨w1.heap.size, 0, none⟩) (List.length (tk x k)) cp3), (12, .int .i64 (List.length (tk x k) : Int)), (13, .int .i64 ((j : Nat) : Int))] ∧ (j ≤ (tk x k).length) ∧ Blk w' (q) 69 [.string (bsT ((nx x k).1)), (evO (nx x k).2)] ∧ RdW w' 1 (List.length (tk x k)) (some ⟨w1.heap.size, 0, none⟩) (u8s (tk x k)) ∧ Tch (one q) w w' ∧ m = (tk x k).length + 1 - j) (m := (tk x k).length + 1 - 0) ?_ ?_
 ·
  refine ⟨0, _, updL_self (by kernel_rfl), by omega, hQ, hI, hTq, rfl⟩
 ·
  rintro m ρ w4 ⟨j, ρ, rfl, hj, hQ, hI, hTq, rfl⟩
  refine zQ ?_
  refine zS [(14, .bool (decide (((j : Nat) : Int) < (List.length (tk x k) : Int))))] ?_
  refine op_nil ?_
  refine W_seq ?_
  refine zW (decide (((j : Nat) : Int) < (List.length (tk x k) : Int))) (fun hc5 => ?_) (fun hc5 => ?_)
  ·
   replace hc5 : ((j : Nat) : Int) < (List.length (tk x k) : Int) := (of_decide_eq_true hc5)
   refine W_skip ?_
   refine W_seq ?_
   refine W_block ?_
   refine zQ ?_
   refine stv (v := ptrAt (some ⟨w1.heap.size, 0, none⟩) j) (by rfl) (R_indexRd1 (len := List.length (tk x k)) (cap := cp3) (k := .i64) (i := ((j : Nat) : Int)) (e := 5) j hI (by kernel_rfl) (by kernel_rfl) (by kernel_rfl) (by kernel_rfl) rfl (by omega)) ?_
   refine stv (v := .int .u8 ((((tk x k).getD j 0).toNat : Nat) : Int)) (by rfl) (R_loadRd (v := .int .u8 ((((tk x k).getD j 0).toNat : Nat) : Int)) hI (by omega) (by kernel_rfl) (by kernel_rfl) (u8s_at (by omega))) ?_
   refine zS [(7, .int .u8 ((((tk x k).getD j 0).toNat : Nat) : Int))] ?_
   refine op_nil ?_
   have hvt := vl_tk (t := tk x k) (by omega) (j := j) (by omega)
   have hb8 := ((tk x k).getD j 0).toNat_lt
   refine zR ?_
   refine zS [(17, .int .u64 ((vl ((tk x k).take j) : Nat) : Int)), (18, .int .u64 (IntKind.u64.wrap (((vl ((tk x k).take j) : Nat) : Int) * 2 ^ 8)))] ?_
   rw [show IntKind.u64.wrap (((vl ((tk x k).take j) : Nat) : Int) * 2 ^ 8) = ((vl ((tk x k).take j) : Nat) : Int) * 2 ^ 8 from wrap_u64 (by omega) (by omega)]
   refine fixR (y := ((vl ((tk x k).take j) * 256 : Nat) : Int)) (by omega) ?_
   refine zS [(19, .int .u8 ((((tk x k).getD j 0).toNat : Nat) : Int)), (20, .int .u64 (IntKind.u64.wrap ((((tk x k).getD j 0).toNat : Nat) : Int)))] ?_
   rw [show IntKind.u64.wrap ((((tk x k).getD j 0).toNat : Nat) : Int) = ((((tk x k).getD j 0).toNat : Nat) : Int) from wrap_u64 (by omega) (by omega)]
   refine zS [(21, .int .u64 (IntKind.u64.wrap (BitVec.ofInt 64 ((vl ((tk x k).take j) * 256 : Nat) : Int) ||| BitVec.ofInt 64 ((((tk x k).getD j 0).toNat : Nat) : Int)).toNat))] ?_
   rw [show IntKind.u64.wrap (BitVec.ofInt 64 ((vl ((tk x k).take j) * 256 : Nat) : Int) ||| BitVec.ofInt 64 ((((tk x k).getD j 0).toNat : Nat) : Int)).toNat = (BitVec.ofInt 64 ((vl ((tk x k).take j) * 256 : Nat) : Int) ||| BitVec.ofInt 64 ((((tk x k).getD j 0).toNat : Nat) : Int)).toNat from wrap_u64 (by omega) (by omega)]
   refine fixR (y := ((vl ((tk x k).take (j + 1)) : Nat) : Int)) (by rw [vl_take (by omega)]; exact or_raw (a := vl ((tk x k).take j)) (b := ((tk x k).getD j 0).toNat) (by first | rfl | omega) rfl hvt (UInt8.toNat_lt _)) ?_
   refine zS [(5, .int .u64 ((vl ((tk x k).take (j + 1)) : Nat) : Int))] ?_
   refine op_nil ?_
   refine zF [(5, .int .u64 ((vl ((tk x k).take (j + 1)) : Nat) : Int)), (7, .int .u8 ((((tk x k).getD j 0).toNat : Nat) : Int)), (11, .slice (some ⟨w1.heap.size, 0, none⟩) (List.length (tk x k)) cp3), (12, .int .i64 (List.length (tk x k) : Int)), (13, .int .i64 ((j : Nat) : Int)), (14, .bool (decide (((j : Nat) : Int) < (List.length (tk x k) : Int))))] fun ρ => ?_
   refine zR ?_
   refine zS [(22, .int .i64 (IntKind.i64.wrap (((j : Nat) : Int) + 1)))] ?_
   rw [show IntKind.i64.wrap (((j : Nat) : Int) + 1) = ((j : Nat) : Int) + 1 from wrap_i64 (by omega) (by omega)]
   refine fixR (y := ((j + 1 : Nat) : Int)) (by omega) ?_
   refine zS [(13, .int .i64 ((j + 1 : Nat) : Int))] ?_
   refine op_nil ?_
   refine ⟨_, (by omega), j + 1, _, updL_self (by kernel_rfl), (by omega), hQ, hI, hTq, rfl⟩
  ·
   replace hc5 : (List.length (tk x k) : Int) ≤ ((j : Nat) : Int) := (Int.not_lt.1 (of_decide_eq_false hc5))
   refine W_exit ?_
   refine X_hit ?_
   refine zQ ?_
   refine zS [(23, .int .u64 ((vl ((tk x k).take j) : Nat) : Int)), (4, .int .u64 ((vl ((tk x k).take j) : Nat) : Int))] ?_
   refine op_nil ?_
   refine W_ret ?_
   exact ⟨_, Res_of (v := .int .u64 ((vl ((tk x k).take j) : Nat) : Int)) (by kernel_rfl), ⟨by rw [List.take_of_length_le (by omega)]; rfl, hQ, hTq⟩⟩

set_option maxRecDepth 100000 in
theorem below_ok (q k m : Nat) (x : St) (w : World) (hQ : Blk w q 69 [.string (bsT x.1), evO x.2]) (hk : k ≤ 4) : Ret Try.prog 49 [.pointer (some ⟨q, 0, none⟩), .int .i64 ((k : Nat) : Int), .int .i64 ((m : Nat) : Int)] w fun v w' => v = .int .i64 ((nu x k : Nat) : Int) ∧ Blk w' q 69 [.string (bsT (bl x k m).1), evO (bl x k m).2] ∧ Tch (one q) w w' := by
  have hTq := Tch.refl (one q) w
  have hnu := nu_lt x k
  have hp4 : 256 ^ k ≤ 256 ^ 4 := Nat.pow_le_pow_right (by decide) hk
  have hp5 : (256 : Nat) ^ 4 = 4294967296 := by decide
  refine enter Try.func49 rfl rfl ?_
  refine zQ ?_
  refine zS [(6, .int .i64 0)] ?_
  refine op_nil ?_
  refine zQ ?_
  refine zS [(8, .pointer (some ⟨q, 0, none⟩)), (9, .int .i64 ((k : Nat) : Int))] ?_
  refine zC (num_ok (q) k x _ hQ (by omega)) ?_
  rintro _ w1 ⟨rfl, hQn, hT2⟩
  have hTq := hTq.trans hT2 (fun _ _ e => e) (fun b hb e => by first | exact e | (have e : b = q := e; omega))
  have hQ : Blk w1 (q) 69 [.string (bsT ((nx x k).1)), (evO (nx x k).2)] := hQn
  refine zS [(11, .int .i64 (IntKind.i64.wrap ((nu x k : Nat) : Int)))] ?_
  rw [show IntKind.i64.wrap ((nu x k : Nat) : Int) = ((nu x k : Nat) : Int) from wrap_i64 (by omega) (by omega)]
  refine zS [(7, .int .i64 ((nu x k : Nat) : Int))] ?_
  refine op_nil ?_
  refine W_seq ?_
  refine zQ ?_
  refine zS [(12, .pointer (some ⟨q, 0, none⟩)), (13, .pointer (some ⟨q, 0, none⟩)), (14, .pointer (some ⟨q, 1, none⟩))] ?_
  refine zL ((evO (nx x k).2)) ((hQ.cell 1).trans rfl) ?_
  refine stv (v := .bool (!((nx x k).2).isSome)) (by rfl) (R_evEql (E := (nx x k).2) (by kernel_rfl)) ?_
  refine zS [(17, .bool (!((nx x k).2).isSome))] ?_
  cases hb3 : (!((nx x k).2).isSome)
  · replace hb3 : ((nx x k).2).isSome = true := ((by simpa using hb3))
    refine zS [(18, undef), (19, undef), (20, undef), (21, .bool false)] ?_
    refine zO false (fun h => nomatch h) (fun _ => ?_)
    refine W_skip ?_
    refine W_seq ?_
    refine zF [(0, .pointer (some ⟨q, 0, none⟩)), (1, .int .i64 ((k : Nat) : Int)), (2, .int .i64 ((m : Nat) : Int)), (6, .int .i64 0), (7, .int .i64 ((nu x k : Nat) : Int)), (21, .bool false)] fun ρ => ?_
    refine zR ?_
    refine zS [(26, .int .i64 ((nu x k : Nat) : Int)), (6, .int .i64 ((nu x k : Nat) : Int))] ?_
    refine op_nil ?_
    refine W_ret ?_
    refine ⟨_, Res_of (v := .int .i64 ((nu x k : Nat) : Int)) (by kernel_rfl), ?_⟩
    have e1 : bl x k m = nx x k := by unfold bl; rw [if_neg (by rintro ⟨h1, h2⟩; first | omega | (have h3 : (nx x k).2.isSome = true := by assumption
                                                                                                  rw [h1] at h3; cases h3))]
    rw [e1]
    exact ⟨rfl, hQ, hTq⟩
  · replace hb3 : ((nx x k).2).isSome = false := ((by simpa using hb3))
    refine zS [(18, .int .i64 ((nu x k : Nat) : Int)), (19, .int .i64 ((m : Nat) : Int)), (20, .bool (decide (((nu x k : Nat) : Int) > ((m : Nat) : Int)))), (21, .bool (decide (((nu x k : Nat) : Int) > ((m : Nat) : Int))))] ?_
    refine zO (decide (((nu x k : Nat) : Int) > ((m : Nat) : Int))) (fun hc4 => ?_) (fun hc4 => ?_)
    · replace hc4 : ((m : Nat) : Int) < ((nu x k : Nat) : Int) := (of_decide_eq_true hc4)
      refine zF [(0, .pointer (some ⟨q, 0, none⟩)), (1, .int .i64 ((k : Nat) : Int)), (2, .int .i64 ((m : Nat) : Int)), (6, .int .i64 0), (7, .int .i64 ((nu x k : Nat) : Int)), (21, .bool (decide (((nu x k : Nat) : Int) > ((m : Nat) : Int))))] fun ρ => ?_
      refine zR ?_
      refine zS [(22, .pointer (some ⟨q, 0, none⟩)), (23, .iface 72 (.string (bsT ([111, 117, 116, 32, 111, 102, 32, 114, 97, 110, 103, 101])))), (24, .pointer (some ⟨q, 0, none⟩)), (25, .pointer (some ⟨q, 1, none⟩))] ?_
      refine st (by rfl) (S_store (b := q) (j := 1) (v := .iface 72 (.string (bsT ([111, 117, 116, 32, 111, 102, 32, 114, 97, 110, 103, 101])))) (by kernel_rfl) (by kernel_rfl) (by kernel_rfl) (by rfl) hQ (by simp) fun w5 hT6 hs7 hQ' => ?_)
      have hTq := hTq.trans hT6 (fun _ _ e => e) (fun b hb e => by first | exact e | (have e : b = q := e; omega))
      replace hQ : Blk w5 q 69 [.string (bsT ((nx x k).1)), .iface 72 (.string (bsT ([111, 117, 116, 32, 111, 102, 32, 114, 97, 110, 103, 101])))] := hQ'
      refine op_nil ?_
      refine zQ ?_
      refine zS [(26, .int .i64 ((nu x k : Nat) : Int)), (6, .int .i64 ((nu x k : Nat) : Int))] ?_
      refine op_nil ?_
      refine W_ret ?_
      refine ⟨_, Res_of (v := .int .i64 ((nu x k : Nat) : Int)) (by kernel_rfl), ?_⟩
      have e1 : bl x k m = ((nx x k).1, some rgT) := by unfold bl; rw [if_pos ⟨by assumption, by omega⟩]
      rw [e1]
      exact ⟨rfl, hQ, hTq⟩
    · replace hc4 : ((nu x k : Nat) : Int) ≤ ((m : Nat) : Int) := (Int.not_lt.1 (of_decide_eq_false hc4))
      refine W_skip ?_
      refine W_seq ?_
      refine zF [(0, .pointer (some ⟨q, 0, none⟩)), (1, .int .i64 ((k : Nat) : Int)), (2, .int .i64 ((m : Nat) : Int)), (6, .int .i64 0), (7, .int .i64 ((nu x k : Nat) : Int)), (21, .bool (decide (((nu x k : Nat) : Int) > ((m : Nat) : Int))))] fun ρ => ?_
      refine zR ?_
      refine zS [(26, .int .i64 ((nu x k : Nat) : Int)), (6, .int .i64 ((nu x k : Nat) : Int))] ?_
      refine op_nil ?_
      refine W_ret ?_
      refine ⟨_, Res_of (v := .int .i64 ((nu x k : Nat) : Int)) (by kernel_rfl), ?_⟩
      have e1 : bl x k m = nx x k := by unfold bl; rw [if_neg (by rintro ⟨h1, h2⟩; first | omega | (have h3 : (nx x k).2.isSome = true := by assumption
                                                                                                    rw [h1] at h3; cases h3))]
      rw [e1]
      exact ⟨rfl, hQ, hTq⟩

end Go.Proofs.YtlkjhkennbdbnaaV

set_option linter.unusedVariables false
set_option linter.unusedSimpArgs false
namespace Go.Proofs.YtlkjhkennbdbnaaV
open Go Go.RowKit Go.Proofs

def q1 (x : St) : St := nx x 1
def q2 (x : St) : St := nx (q1 x) (nu x 1)
def q3 (x : St) : St := nx (q2 x) 2
def q4 (x : St) : St := nx (q3 x) 2
def q5 (x : St) : St := nx (q4 x) 2
def q6 (x : St) : St := nx (q5 x) 1
def q7 (x : St) : St := nx (q6 x) 1
def qi (x : St) : Nat → St
 | 0 => q7 x
 | i + 1 => nx (qi x i) 8
def imx (x : St) (n : Nat) : List Nat := (List.range n).map (fun i => nu (qi x i) 8)
theorem imx_len (x : St) (n : Nat) : (imx x n).length = n := by simp [imx]
theorem imx_step (x : St) (n : Nat) : imx x (n + 1) = imx x n ++ [nu (qi x n) 8] := by simp [imx, List.range_succ]
theorem imx_lt {x : St} {n : Nat} : ∀ y, y ∈ imx x n → y < 18446744073709551616 := by
 intro y hy
 unfold imx at hy
 rw [List.mem_map] at hy
 obtain ⟨i, _, rfl⟩ := hy
 exact nu_8 _
def tco (x : St) : Co := (tk (q1 x) (nu x 1), ((nu (q2 x) 2 : Nat) : Int), ((nu (q3 x) 2 : Nat) : Int), imx x (nu (q6 x) 1), ((nu (q5 x) 1 : Nat) : Int), ((nu (q4 x) 2 : Nat) : Int))
def tf (x : St) : St := qi x (nu (q6 x) 1)

set_option maxRecDepth 100000 in
set_option maxHeartbeats 2000000 in
theorem test_ok (q : Nat) (x : St) (w : World) (hQ : Blk w q 69 [.string (bsT x.1), evO x.2]) : Ret Try.prog 51 [.pointer (some ⟨q, 0, none⟩)] w fun v w' => ∃ u : T6, v = .agg (tc u).toArray ∧ Blk w' q 69 [.string (bsT (tf x).1), evO (tf x).2] ∧ TmW w' u ∧ core u = tco x ∧ Fresh u w.heap.size ∧ Tch (one q) w w' := by
 have hTq := Tch.refl (one q) w
 have hqw := hQ.lt
 refine enter Try.func51 rfl rfl ?_
 refine zQ ?_
 have hzN := hTq.size
 have lN_hQ := hQ.lt
 refine st (by rfl) (S_new (v := .pointer (some ⟨w.heap.size, 0, none⟩)) (ob := .cells #[.slice none 0 0, .int .i64 0, .int .i64 0, .slice none 0 0, .int .i64 0, .int .i64 0] 43) (by kernel_rfl) fun w1 hT2 hs3 hB4 => ?_)
 replace hB4 : Blk w1 (w.heap.size) 43 [.slice none 0 0, .int .i64 0, .int .i64 0, .slice none 0 0, .int .i64 0, .int .i64 0] := hB4
 have hQ := hQ.tch0 hT2
 have hTq := hTq.then0 hT2
 refine op_nil ?_
 refine zQ ?_
 have hzN := hTq.size
 have lN_hQ := hQ.lt
 have lN_hB4 := hB4.lt
 refine st (by rfl) (S_new (v := .pointer (some ⟨w1.heap.size, 0, none⟩)) (ob := .cells #[.slice none 0 0, .int .i64 0, .int .i64 0, .slice none 0 0, .int .i64 0, .int .i64 0] 43) (by kernel_rfl) fun w5 hT6 hs7 hB8 => ?_)
 replace hB8 : Blk w5 (w1.heap.size) 43 [.slice none 0 0, .int .i64 0, .int .i64 0, .slice none 0 0, .int .i64 0, .int .i64 0] := hB8
 have hQ := hQ.tch0 hT6
 have hTq := hTq.then0 hT6
 have hB4 := hB4.tch0 hT6
 refine op_nil ?_
 refine zQ ?_
 refine zS [(4, .pointer (some ⟨q, 0, none⟩)), (5, .pointer (some ⟨q, 0, none⟩))] ?_
 have hnu1_26 := nu_1 x
 refine zC (num_ok (q) 1 x _ hQ (by omega)) ?_
 rintro _ w9 ⟨rfl, hQn, hT10⟩
 have hTq := hTq.trans hT10 (fun _ _ e => e) (fun b hb e => by first | exact e | (have e : b = q := e; omega))
 have hB4 := hB4.tch hT10 (hB4.ne hQ (by decide))
 have hB8 := hB8.tch hT10 (hB8.ne hQ (by decide))
 have hQ : Blk w9 (q) 69 [.string (bsT ((q1 x).1)), (evO (q1 x).2)] := hQn
 refine zS [(7, .int .i64 (IntKind.i64.wrap ((nu x 1 : Nat) : Int)))] ?_
 rw [show IntKind.i64.wrap ((nu x 1 : Nat) : Int) = ((nu x 1 : Nat) : Int) from wrap_i64 (by omega) (by omega)]
 refine zC (take_ok (q) (nu x 1) (q1 x) _ hQ) ?_
 rintro _ w11 ⟨rfl, hQn, hT12⟩
 have hTq := hTq.trans hT12 (fun _ _ e => e) (fun b hb e => by first | exact e | (have e : b = q := e; omega))
 have hB4 := hB4.tch hT12 (hB4.ne hQ (by decide))
 have hB8 := hB8.tch hT12 (hB8.ne hQ (by decide))
 have hQ : Blk w11 (q) 69 [.string (bsT ((q2 x).1)), (evO (q2 x).2)] := hQn
 have lb_hB4 := hB4.lt
 have lb_hB8 := hB8.lt
 have lb_hQ := hQ.lt
 refine st (by rfl) (S_s2b (src := 9) (dst := 39) (e := 5) (a := tk (q1 x) (nu x 1)) (by kernel_rfl) (by kernel_rfl) (by kernel_rfl) (by kernel_rfl) (by have := tk_le (q1 x) (nu x 1); omega) fun cp13 w13 hT13 hs13 hI9 => ?_)
 have hTq := hTq.then0 hT13
 have hB4 := hB4.tch0 hT13
 have hB8 := hB8.tch0 hT13
 have hQ := hQ.tch0 hT13
 have hzI := hTq.size
 have hgI : w.heap.size ≤ w11.heap.size := by first | omega | exact Nat.le_refl _
 have hI : RdN w13 (List.length (tk (q1 x) (nu x 1))) (w11.heap.size) (u8s (tk (q1 x) (nu x 1))) := hI9
 have hSz : w11.heap.size + 1 ≤ w13.heap.size := by omega
 refine zS [(10, .pointer (some ⟨w1.heap.size, 0, none⟩))] ?_
 refine st (by rfl) (S_store (b := w1.heap.size) (j := 0) (v := .slice (some ⟨w11.heap.size, 0, none⟩) (List.length (tk (q1 x) (nu x 1))) cp13) (by kernel_rfl) (by kernel_rfl) (by kernel_rfl) (by rfl) hB8 (by simp) fun w14 hT15 hs16 hB8' => ?_)
 have hTq := hTq.trans hT15 (fun _ _ e => e) (fun b hb e => by first | exact e | (have e : b = w1.heap.size := e; omega))
 have hB4 := hB4.tch hT15 (fun e => by have : w.heap.size = w1.heap.size := e; omega)
 have hQ := hQ.tch hT15 (hQ.ne hB8 (by decide))
 have hI := hI.st hT15 (fun e => by have e : w11.heap.size = w1.heap.size := e; omega)
 have hSz := Nat.le_trans hSz hT15.size
 replace hB8 : Blk w14 w1.heap.size 43 [.slice (some ⟨w11.heap.size, 0, none⟩) (List.length (tk (q1 x) (nu x 1))) cp13, .int .i64 0, .int .i64 0, .slice none 0 0, .int .i64 0, .int .i64 0] := hB8'
 refine op_nil ?_
 refine W_seq ?_
 refine zF [(0, .pointer (some ⟨q, 0, none⟩)), (2, .pointer (some ⟨w.heap.size, 0, none⟩)), (3, .pointer (some ⟨w1.heap.size, 0, none⟩))] fun ρ => ?_
 refine zR ?_
 refine zS [(11, .pointer (some ⟨q, 0, none⟩))] ?_
 have hnu2_66 := nu_2 (q2 x)
 refine zC (num_ok (q) 2 (q2 x) _ hQ (by omega)) ?_
 rintro _ w17 ⟨rfl, hQn, hT18⟩
 have hTq := hTq.trans hT18 (fun _ _ e => e) (fun b hb e => by first | exact e | (have e : b = q := e; omega))
 have hB4 := hB4.tch hT18 (hB4.ne hQ (by decide))
 have hB8 := hB8.tch hT18 (hB8.ne hQ (by decide))
 have hI := hI.st hT18 (fun e => by have e : w11.heap.size = q := e; omega)
 have hSz := Nat.le_trans hSz hT18.size
 have hQ : Blk w17 (q) 69 [.string (bsT ((q3 x).1)), (evO (q3 x).2)] := hQn
 refine zS [(13, .int .i64 (IntKind.i64.wrap ((nu (q2 x) 2 : Nat) : Int)))] ?_
 rw [show IntKind.i64.wrap ((nu (q2 x) 2 : Nat) : Int) = ((nu (q2 x) 2 : Nat) : Int) from wrap_i64 (by omega) (by omega)]
 refine zS [(14, .pointer (some ⟨q, 0, none⟩))] ?_
 have hnu2_78 := nu_2 (q3 x)
 refine zC (num_ok (q) 2 (q3 x) _ hQ (by omega)) ?_
 rintro _ w19 ⟨rfl, hQn, hT20⟩
 have hTq := hTq.trans hT20 (fun _ _ e => e) (fun b hb e => by first | exact e | (have e : b = q := e; omega))
 have hB4 := hB4.tch hT20 (hB4.ne hQ (by decide))
 have hB8 := hB8.tch hT20 (hB8.ne hQ (by decide))
 have hI := hI.st hT20 (fun e => by have e : w11.heap.size = q := e; omega)
 have hSz := Nat.le_trans hSz hT20.size
 have hQ : Blk w19 (q) 69 [.string (bsT ((q4 x).1)), (evO (q4 x).2)] := hQn
 refine zS [(16, .int .i64 (IntKind.i64.wrap ((nu (q3 x) 2 : Nat) : Int)))] ?_
 rw [show IntKind.i64.wrap ((nu (q3 x) 2 : Nat) : Int) = ((nu (q3 x) 2 : Nat) : Int) from wrap_i64 (by omega) (by omega)]
 refine zS [(17, .pointer (some ⟨q, 0, none⟩))] ?_
 have hnu2_90 := nu_2 (q4 x)
 refine zC (num_ok (q) 2 (q4 x) _ hQ (by omega)) ?_
 rintro _ w21 ⟨rfl, hQn, hT22⟩
 have hTq := hTq.trans hT22 (fun _ _ e => e) (fun b hb e => by first | exact e | (have e : b = q := e; omega))
 have hB4 := hB4.tch hT22 (hB4.ne hQ (by decide))
 have hB8 := hB8.tch hT22 (hB8.ne hQ (by decide))
 have hI := hI.st hT22 (fun e => by have e : w11.heap.size = q := e; omega)
 have hSz := Nat.le_trans hSz hT22.size
 have hQ : Blk w21 (q) 69 [.string (bsT ((q5 x).1)), (evO (q5 x).2)] := hQn
 refine zS [(19, .int .i64 (IntKind.i64.wrap ((nu (q4 x) 2 : Nat) : Int)))] ?_
 rw [show IntKind.i64.wrap ((nu (q4 x) 2 : Nat) : Int) = ((nu (q4 x) 2 : Nat) : Int) from wrap_i64 (by omega) (by omega)]
 refine zS [(20, .pointer (some ⟨w1.heap.size, 1, none⟩))] ?_
 refine st (by rfl) (S_store (b := w1.heap.size) (j := 1) (v := .int .i64 ((nu (q2 x) 2 : Nat) : Int)) (by kernel_rfl) (by kernel_rfl) (by kernel_rfl) (by rfl) hB8 (by simp) fun w23 hT24 hs25 hB8' => ?_)
 have hTq := hTq.trans hT24 (fun _ _ e => e) (fun b hb e => by first | exact e | (have e : b = w1.heap.size := e; omega))
 have hB4 := hB4.tch hT24 (fun e => by have : w.heap.size = w1.heap.size := e; omega)
 have hI := hI.st hT24 (fun e => by have e : w11.heap.size = w1.heap.size := e; omega)
 have hSz := Nat.le_trans hSz hT24.size
 have hQ := hQ.tch hT24 (hQ.ne hB8 (by decide))
 replace hB8 : Blk w23 w1.heap.size 43 [.slice (some ⟨w11.heap.size, 0, none⟩) (List.length (tk (q1 x) (nu x 1))) cp13, .int .i64 ((nu (q2 x) 2 : Nat) : Int), .int .i64 0, .slice none 0 0, .int .i64 0, .int .i64 0] := hB8'
 refine zS [(21, .pointer (some ⟨w1.heap.size, 2, none⟩))] ?_
 refine st (by rfl) (S_store (b := w1.heap.size) (j := 2) (v := .int .i64 ((nu (q3 x) 2 : Nat) : Int)) (by kernel_rfl) (by kernel_rfl) (by kernel_rfl) (by rfl) hB8 (by simp) fun w26 hT27 hs28 hB8' => ?_)
 have hTq := hTq.trans hT27 (fun _ _ e => e) (fun b hb e => by first | exact e | (have e : b = w1.heap.size := e; omega))
 have hB4 := hB4.tch hT27 (fun e => by have : w.heap.size = w1.heap.size := e; omega)
 have hI := hI.st hT27 (fun e => by have e : w11.heap.size = w1.heap.size := e; omega)
 have hSz := Nat.le_trans hSz hT27.size
 have hQ := hQ.tch hT27 (hQ.ne hB8 (by decide))
 replace hB8 : Blk w26 w1.heap.size 43 [.slice (some ⟨w11.heap.size, 0, none⟩) (List.length (tk (q1 x) (nu x 1))) cp13, .int .i64 ((nu (q2 x) 2 : Nat) : Int), .int .i64 ((nu (q3 x) 2 : Nat) : Int), .slice none 0 0, .int .i64 0, .int .i64 0] := hB8'
 refine zS [(22, .pointer (some ⟨w1.heap.size, 5, none⟩))] ?_
 refine st (by rfl) (S_store (b := w1.heap.size) (j := 5) (v := .int .i64 ((nu (q4 x) 2 : Nat) : Int)) (by kernel_rfl) (by kernel_rfl) (by kernel_rfl) (by rfl) hB8 (by simp) fun w29 hT30 hs31 hB8' => ?_)
 have hTq := hTq.trans hT30 (fun _ _ e => e) (fun b hb e => by first | exact e | (have e : b = w1.heap.size := e; omega))
 have hB4 := hB4.tch hT30 (fun e => by have : w.heap.size = w1.heap.size := e; omega)
 have hI := hI.st hT30 (fun e => by have e : w11.heap.size = w1.heap.size := e; omega)
 have hSz := Nat.le_trans hSz hT30.size
 have hQ := hQ.tch hT30 (hQ.ne hB8 (by decide))
 replace hB8 : Blk w29 w1.heap.size 43 [.slice (some ⟨w11.heap.size, 0, none⟩) (List.length (tk (q1 x) (nu x 1))) cp13, .int .i64 ((nu (q2 x) 2 : Nat) : Int), .int .i64 ((nu (q3 x) 2 : Nat) : Int), .slice none 0 0, .int .i64 0, .int .i64 ((nu (q4 x) 2 : Nat) : Int)] := hB8'
 refine op_nil ?_
 refine W_seq ?_
 refine zF [(0, .pointer (some ⟨q, 0, none⟩)), (2, .pointer (some ⟨w.heap.size, 0, none⟩)), (3, .pointer (some ⟨w1.heap.size, 0, none⟩))] fun ρ => ?_
 refine zR ?_
 refine zS [(23, .pointer (some ⟨q, 0, none⟩))] ?_
 have hnu1_130 := nu_1 (q5 x)
 refine zC (num_ok (q) 1 (q5 x) _ hQ (by omega)) ?_
 rintro _ w32 ⟨rfl, hQn, hT33⟩
 have hTq := hTq.trans hT33 (fun _ _ e => e) (fun b hb e => by first | exact e | (have e : b = q := e; omega))
 have hB4 := hB4.tch hT33 (hB4.ne hQ (by decide))
 have hB8 := hB8.tch hT33 (hB8.ne hQ (by decide))
 have hI := hI.st hT33 (fun e => by have e : w11.heap.size = q := e; omega)
 have hSz := Nat.le_trans hSz hT33.size
 have hQ : Blk w32 (q) 69 [.string (bsT ((q6 x).1)), (evO (q6 x).2)] := hQn
 refine zS [(25, .int .i64 (IntKind.i64.wrap ((nu (q5 x) 1 : Nat) : Int)))] ?_
 rw [show IntKind.i64.wrap ((nu (q5 x) 1 : Nat) : Int) = ((nu (q5 x) 1 : Nat) : Int) from wrap_i64 (by omega) (by omega)]
 refine zS [(26, .pointer (some ⟨w1.heap.size, 4, none⟩))] ?_
 refine st (by rfl) (S_store (b := w1.heap.size) (j := 4) (v := .int .i64 ((nu (q5 x) 1 : Nat) : Int)) (by kernel_rfl) (by kernel_rfl) (by kernel_rfl) (by rfl) hB8 (by simp) fun w34 hT35 hs36 hB8' => ?_)
 have hTq := hTq.trans hT35 (fun _ _ e => e) (fun b hb e => by first | exact e | (have e : b = w1.heap.size := e; omega))
 have hB4 := hB4.tch hT35 (fun e => by have : w.heap.size = w1.heap.size := e; omega)
 have hI := hI.st hT35 (fun e => by have e : w11.heap.size = w1.heap.size := e; omega)
 have hSz := Nat.le_trans hSz hT35.size
 have hQ := hQ.tch hT35 (hQ.ne hB8 (by decide))
 replace hB8 : Blk w34 w1.heap.size 43 [.slice (some ⟨w11.heap.size, 0, none⟩) (List.length (tk (q1 x) (nu x 1))) cp13, .int .i64 ((nu (q2 x) 2 : Nat) : Int), .int .i64 ((nu (q3 x) 2 : Nat) : Int), .slice none 0 0, .int .i64 ((nu (q5 x) 1 : Nat) : Int), .int .i64 ((nu (q4 x) 2 : Nat) : Int)] := hB8'
 refine op_nil ?_
 refine W_seq ?_
 refine W_seq ?_
 have hO : Own w34 0 44 1 (.slice none 0 0) 0 (u64s []) := Own.nil_ _ _ _ _
 have nB_hO : ∀ c, (Value.slice none 0 0).ownBlock = some c → w11.heap.size + 1 ≤ c := fun c hc => by cases hc
 refine zR ?_
 refine zS [(27, .pointer (some ⟨q, 0, none⟩))] ?_
 have hnu1_156 := nu_1 (q6 x)
 refine zC (num_ok (q) 1 (q6 x) _ hQ (by omega)) ?_
 rintro _ w37 ⟨rfl, hQn, hT38⟩
 have hTq := hTq.trans hT38 (fun _ _ e => e) (fun b hb e => by first | exact e | (have e : b = q := e; omega))
 have hB4 := hB4.tch hT38 (hB4.ne hQ (by decide))
 have hB8 := hB8.tch hT38 (hB8.ne hQ (by decide))
 have hI := hI.st hT38 (fun e => by have e : w11.heap.size = q := e; omega)
 have hSz := Nat.le_trans hSz hT38.size
 have hO := hO.tch hT38 (fun c hc e => hO.blk_ne hQ (by decide) c hc e)
 have hQ : Blk w37 (q) 69 [.string (bsT ((q7 x).1)), (evO (q7 x).2)] := hQn
 refine zS [(29, .int .u64 0)] ?_
 refine op_nil ?_
 refine W_block ?_
 refine W_loop (fun m ρ w' => ∃ (B : Option Addr) (n cb i : Nat) (ρ0 : Env), ρ = updL ρ0 [(0, .pointer (some ⟨q, 0, none⟩)), (2, .pointer (some ⟨w.heap.size, 0, none⟩)), (3, .pointer (some ⟨w1.heap.size, 0, none⟩)), (28, .int .u64 ((nu (q6 x) 1 : Nat) : Int)), (29, .int .u64 ((i : Nat) : Int))] ∧ (i ≤ nu (q6 x) 1) ∧ (n = i) ∧ (∀ c, (Value.slice B n cb).ownBlock = some c → w11.heap.size + 1 ≤ c) ∧ Blk w' (w.heap.size) 43 [.slice none 0 0, .int .i64 0, .int .i64 0, .slice none 0 0, .int .i64 0, .int .i64 0] ∧ Blk w' (w1.heap.size) 43 [.slice (some ⟨w11.heap.size, 0, none⟩) (List.length (tk (q1 x) (nu x 1))) cp13, .int .i64 ((nu (q2 x) 2 : Nat) : Int), .int .i64 ((nu (q3 x) 2 : Nat) : Int), .slice B n cb, .int .i64 ((nu (q5 x) 1 : Nat) : Int), .int .i64 ((nu (q4 x) 2 : Nat) : Int)] ∧ RdN w' (List.length (tk (q1 x) (nu x 1))) (w11.heap.size) (u8s (tk (q1 x) (nu x 1))) ∧ Own w' 0 44 1 (.slice B n cb) n (u64s (imx x i)) ∧ (w11.heap.size + 1 ≤ (w').heap.size) ∧ Blk w' (q) 69 [.string (bsT ((qi x i).1)), (evO (qi x i).2)] ∧ Tch (one q) w w' ∧ m = nu (q6 x) 1 + 1 - i) (m := nu (q6 x) 1 + 1 - 0) ?_ ?_
 ·
  refine ⟨none, 0, 0, 0, _, updL_self (by kernel_rfl), by omega, rfl, nB_hO, hB4, hB8, hI, hO, hSz, hQ, hTq, rfl⟩
 ·
  rintro m ρ w39 ⟨B, n, cb, i, ρ, rfl, hi, hni, nB_hO, hB4, hQ5, hI, hO, hSz, hQ, hTq, rfl⟩
  refine zQ ?_
  refine zS [(30, .bool (decide (((i : Nat) : Int) < ((nu (q6 x) 1 : Nat) : Int))))] ?_
  refine op_nil ?_
  refine W_seq ?_
  refine zW (decide (((i : Nat) : Int) < ((nu (q6 x) 1 : Nat) : Int))) (fun hc40 => ?_) (fun hc40 => ?_)
  ·
   replace hc40 : ((i : Nat) : Int) < ((nu (q6 x) 1 : Nat) : Int) := (of_decide_eq_true hc40)
   refine W_skip ?_
   refine W_seq ?_
   refine W_block ?_
   refine W_drawT (fun w' => Blk w' (w1.heap.size) 43 [.slice (some ⟨w11.heap.size, 0, none⟩) (List.length (tk (q1 x) (nu x 1))) cp13, .int .i64 ((nu (q2 x) 2 : Nat) : Int), .int .i64 ((nu (q3 x) 2 : Nat) : Int), .slice B n cb, .int .i64 ((nu (q5 x) 1 : Nat) : Int), .int .i64 ((nu (q4 x) 2 : Nat) : Int)]) 6 (by kernel_rfl) (by kernel_rfl) (by kernel_rfl) fun w41 hT42 hh43 => ?_
   have hB4 := hB4.tch0 hT42
   have hQ5 := hQ5.tch0 hT42
   have hI := hI.tch0 hT42
   have hO := hO.tch0 hT42
   have hSz := Nat.le_trans hSz hT42.size
   have hQ := hQ.tch0 hT42
   have hTq := hTq.then0 hT42
   refine ttk [0, 2] #[true, false, true, false, false, false, false, false] [(31, .pointer (some ⟨w1.heap.size, 3, none⟩)), (33, .pointer (some ⟨q, 0, none⟩))] hQ5 (by kernel_rfl) ?_
   refine t_val (v := .slice B n cb) 1 (by kernel_rfl) (by rfl) (by kernel_rfl) (by kernel_rfl) (by kernel_rfl) (fun w' hs => by have hQ5 := hs; exact R_load (v := .slice B n cb) (by kernel_rfl) (by kernel_rfl) ((hQ5.cell 3).trans rfl)) hQ5 ?_
   have hnu8_0 := nu_8 (qi x i)
   refine t_one 3 (by kernel_rfl) (by rfl) (by kernel_rfl) (S_call (args := [.pointer (some ⟨q, 0, none⟩), .int .i64 8]) (by kernel_rfl) (num_ok (q) 8 (qi x i) _ hQ (by omega)) ?_)
   rintro _ w44 ⟨rfl, hQn, hT45⟩
   have hB4 := hB4.tch hT45 (hB4.ne hQ (by decide))
   have hQ5 := hQ5.tch hT45 (hQ5.ne hQ (by decide))
   have hI := hI.st hT45 (fun e => by have e : w11.heap.size = q := e; omega)
   have hO := hO.tch hT45 (fun c hc e => hO.blk_ne hQ (by decide) c hc e)
   have hSz := Nat.le_trans hSz hT45.size
   have hTq := hTq.trans hT45 (fun _ _ e => e) (fun b hb e => by first | exact e | (have e : b = q := e; omega))
   have hQ : Blk w44 (q) 69 [.string (bsT ((qi x (i + 1)).1)), (evO (qi x (i + 1)).2)] := hQn
   refine ⟨fun _ => hQ5, ?_⟩
   have hzN := hTq.size
   have lN_hB4 := hB4.lt
   have lN_hQ5 := hQ5.lt
   have lN_hQ := hQ.lt
   refine t_one 4 (by kernel_rfl) (by rfl) (by kernel_rfl) (S_new (v := .slice (some ⟨w44.heap.size, 0, none⟩) 1 1) (ob := .cells #[.int .u64 ((nu (qi x i) 8 : Nat) : Int)] 44) (by kernel_rfl) fun w46 hT47 hs48 hB49 => ?_)
   replace hB49 : Blk w46 (w44.heap.size) 44 [.int .u64 ((nu (qi x i) 8 : Nat) : Int)] := hB49
   have hB4 := hB4.tch0 hT47
   have hQ5 := hQ5.tch0 hT47
   have hI := hI.tch0 hT47
   have hO := hO.tch0 hT47
   have hSz := Nat.le_trans hSz hT47.size
   have hTq := hTq.then0 hT47
   have hQ := hQ.tch0 hT47
   refine ⟨fun _ => hQ5, ?_⟩
   have lt_hB4 := hB4.lt
   have lt_hQ5 := hQ5.lt
   have lt_hQ := hQ.lt
   have lt_hB49 := hB49.lt
   refine t_one 5 (by kernel_rfl) (by rfl) (by kernel_rfl) (S_appendR 41 44 (.int .u64 0) 1 8 (n := n) (m := 1) (A := B) (cp := cb) (cells := u64s (imx x i)) (news := [.int .u64 ((nu (qi x i) 8 : Nat) : Int)]) (b := w44.heap.size) (off := 0) (c := 1) (by kernel_rfl) (by kernel_rfl) (by decide) (by kernel_rfl) (by kernel_rfl) (by kernel_rfl) hO (by rfl) (fun k u hk => by rw [Nat.zero_add, hB49.cell]; exact hk) (by simp [oneV]) (by simp only [maxLen]; omega) (by omega) fun A50 c50 w50 hO50 hw50 hT50 => ?_)
   have hSz0 := hSz
   have hB4 := hB4.tch hT50 (fun e => hO.blk_ne hB4 (by decide) _ e rfl)
   have hQ5 := hQ5.tch hT50 (fun e => hO.blk_ne hQ5 (by decide) _ e rfl)
   have hI := hI.st hT50 (fun e => by have := nB_hO _ e; omega)
   have hSz := Nat.le_trans hSz hT50.size
   have hTq := hTq.trans hT50 (fun _ _ e => e) (fun b hb e => by have := nB_hO b e; omega)
   have hQ := hQ.tch hT50 (fun e => hO.blk_ne hQ (by decide) _ e rfl)
   have hO : Own w50 0 44 1 (.slice A50 (n + 1) c50) (n + 1) (u64s (imx x i ++ [nu (qi x i) 8])) := by rw [u64s_app]; exact hO50
   have nB_hO : ∀ c, (Value.slice A50 (n + 1) c50).ownBlock = some c → w11.heap.size + 1 ≤ c := fun c hc => (hw50 c hc).elim (nB_hO c) (fun q => by omega)
   refine ⟨fun _ => hQ5, ?_⟩
   refine t_one 6 (by kernel_rfl) (by rfl) (by kernel_rfl) (S_val (v := .pointer (some ⟨w1.heap.size, 3, none⟩)) (plainV_run (by kernel_rfl) _) ?_)
   refine ⟨fun h => absurd h (by decide), ?_⟩
   refine t_one 7 (by kernel_rfl) (by rfl) (by kernel_rfl) (S_store (b := w1.heap.size) (j := 3) (v := .slice A50 (n + 1) c50) (by kernel_rfl) (by kernel_rfl) (by kernel_rfl) (by rfl) hQ5 (by simp) fun w51 hT52 hs53 hQ5' => ?_)
   have hB4 := hB4.tch hT52 (fun e => by have : w.heap.size = w1.heap.size := e; omega)
   have hI := hI.st hT52 (fun e => by have e : w11.heap.size = w1.heap.size := e; omega)
   have hSz := Nat.le_trans hSz hT52.size
   have hTq := hTq.trans hT52 (fun _ _ e => e) (fun b hb e => by first | exact e | (have e : b = w1.heap.size := e; omega))
   have hQ := hQ.tch hT52 (hQ.ne hQ5 (by decide))
   have hO := hO.tch hT52 (fun c hc e => hO.blk_ne hQ5 (by decide) c hc e)
   replace hQ5 : Blk w51 w1.heap.size 43 [.slice (some ⟨w11.heap.size, 0, none⟩) (List.length (tk (q1 x) (nu x 1))) cp13, .int .i64 ((nu (q2 x) 2 : Nat) : Int), .int .i64 ((nu (q3 x) 2 : Nat) : Int), .slice A50 (n + 1) c50, .int .i64 ((nu (q5 x) 1 : Nat) : Int), .int .i64 ((nu (q4 x) 2 : Nat) : Int)] := hQ5'
   refine ⟨fun h => absurd h (by decide), ?_⟩
   refine t_done (by kernel_rfl) ?_
   refine zF [(0, .pointer (some ⟨q, 0, none⟩)), (2, .pointer (some ⟨w.heap.size, 0, none⟩)), (3, .pointer (some ⟨w1.heap.size, 0, none⟩)), (28, .int .u64 ((nu (q6 x) 1 : Nat) : Int)), (29, .int .u64 ((i : Nat) : Int)), (30, .bool (decide (((i : Nat) : Int) < ((nu (q6 x) 1 : Nat) : Int))))] fun ρ => ?_
   refine zR ?_
   refine zS [(38, .int .u64 (IntKind.u64.wrap (((i : Nat) : Int) + 1)))] ?_
   rw [show IntKind.u64.wrap (((i : Nat) : Int) + 1) = ((i : Nat) : Int) + 1 from wrap_u64 (by omega) (by omega)]
   refine fixR (y := ((i + 1 : Nat) : Int)) (by omega) ?_
   refine zS [(29, .int .u64 ((i + 1 : Nat) : Int))] ?_
   refine op_nil ?_
   refine ⟨_, (by omega), A50, n + 1, c50, i + 1, _, updL_self (by kernel_rfl), (by omega), (by omega), nB_hO, hB4, hQ5, hI, (by rw [imx_step]; exact hO), hSz, hQ, hTq, rfl⟩
  ·
   replace hc40 : ((nu (q6 x) 1 : Nat) : Int) ≤ ((i : Nat) : Int) := (Int.not_lt.1 (of_decide_eq_false hc40))
   refine W_exit ?_
   refine X_hit ?_
   refine zQ ?_
   refine st (by rfl) (S_val (v := .agg #[.slice (some ⟨w11.heap.size, 0, none⟩) (List.length (tk (q1 x) (nu x 1))) cp13, .int .i64 ((nu (q2 x) 2 : Nat) : Int), .int .i64 ((nu (q3 x) 2 : Nat) : Int), .slice B n cb, .int .i64 ((nu (q5 x) 1 : Nat) : Int), .int .i64 ((nu (q4 x) 2 : Nat) : Int)]) (R_loadA [.slice (some ⟨w11.heap.size, 0, none⟩) (List.length (tk (q1 x) (nu x 1))) cp13, .int .i64 ((nu (q2 x) 2 : Nat) : Int), .int .i64 ((nu (q3 x) 2 : Nat) : Int), .slice B n cb, .int .i64 ((nu (q5 x) 1 : Nat) : Int), .int .i64 ((nu (q4 x) 2 : Nat) : Int)] (by kernel_rfl) (by kernel_rfl) (by kernel_rfl) (fun k u hk => by rw [hQ5.cell]; exact get_part _ 0 _ k u rfl hk)) ?_)
   refine st (by rfl) (S_storeA (b := w.heap.size) (j := 0) (cs := [.slice (some ⟨w11.heap.size, 0, none⟩) (List.length (tk (q1 x) (nu x 1))) cp13, .int .i64 ((nu (q2 x) 2 : Nat) : Int), .int .i64 ((nu (q3 x) 2 : Nat) : Int), .slice B n cb, .int .i64 ((nu (q5 x) 1 : Nat) : Int), .int .i64 ((nu (q4 x) 2 : Nat) : Int)]) (by kernel_rfl) (by kernel_rfl) (by kernel_rfl) (by simp [oneV]) hB4 (by simp) fun w54 hT55 hs56 hB4' => ?_)
   have hQ5 := hQ5.tch hT55 (fun e => by have : w1.heap.size = w.heap.size := e; omega)
   have hI := hI.st hT55 (fun e => by have e : w11.heap.size = w.heap.size := e; omega)
   have hO := hO.tch hT55 (fun c hc e => hO.blk_ne hB4 (by decide) c hc e)
   have hSz := Nat.le_trans hSz hT55.size
   have hQ := hQ.tch hT55 (hQ.ne hB4 (by decide))
   have hTq := hTq.trans hT55 (fun _ _ e => e) (fun b hb e => by first | exact e | (have e : b = w.heap.size := e; omega))
   replace hB4 : Blk w54 w.heap.size 43 [.slice (some ⟨w11.heap.size, 0, none⟩) (List.length (tk (q1 x) (nu x 1))) cp13, .int .i64 ((nu (q2 x) 2 : Nat) : Int), .int .i64 ((nu (q3 x) 2 : Nat) : Int), .slice B n cb, .int .i64 ((nu (q5 x) 1 : Nat) : Int), .int .i64 ((nu (q4 x) 2 : Nat) : Int)] := hB4'
   refine op_nil ?_
   refine W_ret ?_
   refine ⟨_, Res_cell (b := w.heap.size) (cs := [.slice (some ⟨w11.heap.size, 0, none⟩) (List.length (tk (q1 x) (nu x 1))) cp13, .int .i64 ((nu (q2 x) 2 : Nat) : Int), .int .i64 ((nu (q3 x) 2 : Nat) : Int), .slice B n cb, .int .i64 ((nu (q5 x) 1 : Nat) : Int), .int .i64 ((nu (q4 x) 2 : Nat) : Int)]) (by rfl) (by kernel_rfl) (by kernel_rfl) hB4 (by kernel_rfl) (by kernel_rfl), ?_⟩
   have hin : i = nu (q6 x) 1 := by omega
   have hni2 := hni.symm
   subst hni2
   have hil := imx_len x i
   refine ⟨⟨some ⟨w11.heap.size, 0, none⟩, cp13, tk (q1 x) (nu x 1), ((nu (q2 x) 2 : Nat) : Int), ((nu (q3 x) 2 : Nat) : Int), B, cb, imx x i, ((nu (q5 x) 1 : Nat) : Int), ((nu (q4 x) 2 : Nat) : Int)⟩, by (try simp only [tc, hil]); (try rfl), by unfold tf; rw [← hin]; exact hQ, ⟨hI, by simp only [hil]; exact hO.rdS, wf_mk (by omega) (by omega) (by omega) (by omega) imx_lt⟩, by unfold core tco; rw [← hin], fresh_mk hgI (fun c hc => by rw [hil] at hc; have := nB_hO c hc; omega), hTq⟩

end Go.Proofs.YtlkjhkennbdbnaaV

set_option linter.unusedVariables false
set_option linter.unusedSimpArgs false
namespace Go.Proofs.YtlkjhkennbdbnaaV
open Go Go.RowKit Go.Proofs

def a0 (s : Tx) : St := (s, none)
def a1 (s : Tx) : St := bl (a0 s) 1 3
def a2 (s : Tx) : St := nx (a1 s) 1
def a3 (s : Tx) : St := bl (a2 s) 4 1073741824
def a4 (s : Tx) : St := bl (a3 s) 4 1073741824
def a5 (s : Tx) : St := nx (a4 s) 2
def aN (s : Tx) : Nat := nu (a4 s) 2
def tst (s : Tx) : Nat → St
 | 0 => a5 s
 | j + 1 => tf (tst s j)
def ptc (s : Tx) (j : Nat) : List Co := (List.range j).map (fun i => tco (tst s i))
theorem ptc_step (s : Tx) (j : Nat) : ptc s (j + 1) = ptc s j ++ [tco (tst s j)] := by simp [ptc, List.range_succ]
def fe (s : Tx) : Option Tx := if (tst s (aN s)).2.isSome = false ∧ ¬ (tst s (aN s)).1 = [] then some fmT else (tst s (aN s)).2
theorem nx_err {x : St} {k : Nat} (h : x.2.isSome = true) : nx x k = x := by unfold nx; rw [if_pos h]
theorem qi_err {x : St} (h : x.2.isSome = true) : ∀ i, qi x i = x
 | 0 => by
  show q7 x = x
  have e1 : q1 x = x := nx_err h
  have e2 : q2 x = x := by unfold q2; rw [e1, nx_err h]
  have e3 : q3 x = x := by unfold q3; rw [e2, nx_err h]
  have e4 : q4 x = x := by unfold q4; rw [e3, nx_err h]
  have e5 : q5 x = x := by unfold q5; rw [e4, nx_err h]
  have e6 : q6 x = x := by unfold q6; rw [e5, nx_err h]
  unfold q7; rw [e6, nx_err h]
 | i + 1 => by
  show nx (qi x i) 8 = x
  rw [qi_err h i, nx_err h]
theorem tf_err {x : St} (h : x.2.isSome = true) : tf x = x := qi_err h _
theorem tst_err {s : Tx} {j : Nat} (h : (tst s j).2.isSome = true) : ∀ d, tst s (j + d) = tst s j
 | 0 => rfl
 | d + 1 => by
  show tf (tst s (j + d)) = tst s j
  rw [tst_err h d, tf_err h]
theorem tst_end {s : Tx} {j n : Nat} (hj : j ≤ n) (h : n ≤ j ∨ (tst s j).2.isSome = true) : tst s n = tst s j := by
 rcases h with h | h
 ·
  rw [show n = j by omega]
 ·
  have := tst_err h (n - j)
  rwa [show j + (n - j) = n by omega] at this
theorem fe_t {s : Tx} {j : Nat} (hj : j ≤ aN s) (h : aN s ≤ j ∨ (tst s j).2.isSome = true) (h1 : (tst s j).2.isSome = false) (h2 : ¬ (tst s j).1 = []) : fe s = some fmT := by
 unfold fe; rw [tst_end hj h, if_pos ⟨h1, h2⟩]
theorem fe_f {s : Tx} {j : Nat} (hj : j ≤ aN s) (h : aN s ≤ j ∨ (tst s j).2.isSome = true) (h1 : (tst s j).2.isSome = true ∨ (tst s j).1 = []) : fe s = (tst s j).2 := by
 unfold fe; rw [tst_end hj h, if_neg]
 rintro ⟨h3, h4⟩
 rcases h1 with h1 | h1
 ·
  rw [h1] at h3; cases h3
 ·
  exact h4 h1
theorem cor_of {s : Tx} {j : Nat} {C : List Co} (hj : j ≤ aN s) (h : aN s ≤ j ∨ (tst s j).2.isSome = true) (hc : C = ptc s j) (hno : fe s = none) : C = ptc s (aN s) := by
 rcases h with h | h
 ·
  rw [hc, show j = aN s by omega]
 ·
  have := fe_f hj (.inr h) (.inl h)
  rw [this] at hno
  rw [hno] at h; cases h

set_option maxRecDepth 100000 in
set_option maxHeartbeats 2000000 in
theorem all_ok (q : Nat) (s : Tx) (w : World) (hQ : Blk w q 69 [.string (bsT (a0 s).1), evO (a0 s).2]) : Ret Try.prog 34 [.pointer (some ⟨q, 0, none⟩)] w fun v w' => ∃ A c l, v = .tuple #[.agg #[.int .i64 ((nu (a0 s) 1 : Nat) : Int), .int .i64 ((nu (a1 s) 1 : Nat) : Int), .slice A l.length c, .int .i64 ((nu (a2 s) 4 : Nat) : Int), .int .i64 ((nu (a3 s) 4 : Nat) : Int)], evO (fe s)] ∧ TsW w' A l ∧ (fe s = none → cores l = ptc s (aN s)) ∧ TsB A l w.heap.size w'.heap.size ∧ Tch (one q) w w' := by
 have hTq := Tch.refl (one q) w
 have hqw := hQ.lt
 refine enter Try.func34 rfl rfl ?_
 refine zQ ?_
 have hzN := hTq.size
 have lN_hQ := hQ.lt
 refine st (by rfl) (S_new (v := .pointer (some ⟨w.heap.size, 0, none⟩)) (ob := .cells #[.int .i64 0, .int .i64 0, .slice none 0 0, .int .i64 0, .int .i64 0] 25) (by kernel_rfl) fun w1 hT2 hs3 hB4 => ?_)
 replace hB4 : Blk w1 (w.heap.size) 25 [.int .i64 0, .int .i64 0, .slice none 0 0, .int .i64 0, .int .i64 0] := hB4
 have hQ := hQ.tch0 hT2
 have hTq := hTq.then0 hT2
 refine zS [(3, .nilIface)] ?_
 refine op_nil ?_
 refine zQ ?_
 have hzN := hTq.size
 have lN_hQ := hQ.lt
 have lN_hB4 := hB4.lt
 refine st (by rfl) (S_new (v := .pointer (some ⟨w1.heap.size, 0, none⟩)) (ob := .cells #[.int .i64 0, .int .i64 0, .slice none 0 0, .int .i64 0, .int .i64 0] 25) (by kernel_rfl) fun w5 hT6 hs7 hB8 => ?_)
 replace hB8 : Blk w5 (w1.heap.size) 25 [.int .i64 0, .int .i64 0, .slice none 0 0, .int .i64 0, .int .i64 0] := hB8
 have hQ := hQ.tch0 hT6
 have hTq := hTq.then0 hT6
 have hB4 := hB4.tch0 hT6
 refine op_nil ?_
 refine zQ ?_
 refine zS [(6, .pointer (some ⟨q, 0, none⟩))] ?_
 have hnu1_27 := nu_1 (a0 s)
 refine zC (below_ok (q) 1 3 (a0 s) _ hQ (by omega)) ?_
 rintro _ w9 ⟨rfl, hQn, hT10⟩
 have hTq := hTq.trans hT10 (fun _ _ e => e) (fun b hb e => by first | exact e | (have e : b = q := e; omega))
 have hB4 := hB4.tch hT10 (hB4.ne hQ (by decide))
 have hB8 := hB8.tch hT10 (hB8.ne hQ (by decide))
 have hQ : Blk w9 (q) 69 [.string (bsT ((a1 s).1)), (evO (a1 s).2)] := hQn
 refine zS [(8, .pointer (some ⟨w1.heap.size, 0, none⟩))] ?_
 refine st (by rfl) (S_store (b := w1.heap.size) (j := 0) (v := .int .i64 ((nu (a0 s) 1 : Nat) : Int)) (by kernel_rfl) (by kernel_rfl) (by kernel_rfl) (by rfl) hB8 (by simp) fun w11 hT12 hs13 hB8' => ?_)
 have hTq := hTq.trans hT12 (fun _ _ e => e) (fun b hb e => by first | exact e | (have e : b = w1.heap.size := e; omega))
 have hB4 := hB4.tch hT12 (fun e => by have : w.heap.size = w1.heap.size := e; omega)
 have hQ := hQ.tch hT12 (hQ.ne hB8 (by decide))
 replace hB8 : Blk w11 w1.heap.size 25 [.int .i64 ((nu (a0 s) 1 : Nat) : Int), .int .i64 0, .slice none 0 0, .int .i64 0, .int .i64 0] := hB8'
 refine op_nil ?_
 refine zQ ?_
 refine zS [(9, .pointer (some ⟨q, 0, none⟩))] ?_
 have hnu1_44 := nu_1 (a1 s)
 refine zC (num_ok (q) 1 (a1 s) _ hQ (by omega)) ?_
 rintro _ w14 ⟨rfl, hQn, hT15⟩
 have hTq := hTq.trans hT15 (fun _ _ e => e) (fun b hb e => by first | exact e | (have e : b = q := e; omega))
 have hB4 := hB4.tch hT15 (hB4.ne hQ (by decide))
 have hB8 := hB8.tch hT15 (hB8.ne hQ (by decide))
 have hQ : Blk w14 (q) 69 [.string (bsT ((a2 s).1)), (evO (a2 s).2)] := hQn
 refine zS [(11, .int .i64 (IntKind.i64.wrap ((nu (a1 s) 1 : Nat) : Int)))] ?_
 rw [show IntKind.i64.wrap ((nu (a1 s) 1 : Nat) : Int) = ((nu (a1 s) 1 : Nat) : Int) from wrap_i64 (by omega) (by omega)]
 refine zS [(12, .pointer (some ⟨w1.heap.size, 1, none⟩))] ?_
 refine st (by rfl) (S_store (b := w1.heap.size) (j := 1) (v := .int .i64 ((nu (a1 s) 1 : Nat) : Int)) (by kernel_rfl) (by kernel_rfl) (by kernel_rfl) (by rfl) hB8 (by simp) fun w16 hT17 hs18 hB8' => ?_)
 have hTq := hTq.trans hT17 (fun _ _ e => e) (fun b hb e => by first | exact e | (have e : b = w1.heap.size := e; omega))
 have hB4 := hB4.tch hT17 (fun e => by have : w.heap.size = w1.heap.size := e; omega)
 have hQ := hQ.tch hT17 (hQ.ne hB8 (by decide))
 replace hB8 : Blk w16 w1.heap.size 25 [.int .i64 ((nu (a0 s) 1 : Nat) : Int), .int .i64 ((nu (a1 s) 1 : Nat) : Int), .slice none 0 0, .int .i64 0, .int .i64 0] := hB8'
 refine op_nil ?_
 refine W_seq ?_
 refine zF [(0, .pointer (some ⟨q, 0, none⟩)), (2, .pointer (some ⟨w.heap.size, 0, none⟩)), (3, .nilIface), (4, .pointer (some ⟨w1.heap.size, 0, none⟩))] fun ρ => ?_
 refine zR ?_
 refine zS [(13, .pointer (some ⟨q, 0, none⟩))] ?_
 have hnu4_64 := nu_4 (a2 s)
 refine zC (below_ok (q) 4 1073741824 (a2 s) _ hQ (by omega)) ?_
 rintro _ w19 ⟨rfl, hQn, hT20⟩
 have hTq := hTq.trans hT20 (fun _ _ e => e) (fun b hb e => by first | exact e | (have e : b = q := e; omega))
 have hB4 := hB4.tch hT20 (hB4.ne hQ (by decide))
 have hB8 := hB8.tch hT20 (hB8.ne hQ (by decide))
 have hQ : Blk w19 (q) 69 [.string (bsT ((a3 s).1)), (evO (a3 s).2)] := hQn
 refine zS [(15, .pointer (some ⟨q, 0, none⟩))] ?_
 have hnu4_72 := nu_4 (a3 s)
 refine zC (below_ok (q) 4 1073741824 (a3 s) _ hQ (by omega)) ?_
 rintro _ w21 ⟨rfl, hQn, hT22⟩
 have hTq := hTq.trans hT22 (fun _ _ e => e) (fun b hb e => by first | exact e | (have e : b = q := e; omega))
 have hB4 := hB4.tch hT22 (hB4.ne hQ (by decide))
 have hB8 := hB8.tch hT22 (hB8.ne hQ (by decide))
 have hQ : Blk w21 (q) 69 [.string (bsT ((a4 s).1)), (evO (a4 s).2)] := hQn
 refine zS [(17, .pointer (some ⟨w1.heap.size, 3, none⟩))] ?_
 refine st (by rfl) (S_store (b := w1.heap.size) (j := 3) (v := .int .i64 ((nu (a2 s) 4 : Nat) : Int)) (by kernel_rfl) (by kernel_rfl) (by kernel_rfl) (by rfl) hB8 (by simp) fun w23 hT24 hs25 hB8' => ?_)
 have hTq := hTq.trans hT24 (fun _ _ e => e) (fun b hb e => by first | exact e | (have e : b = w1.heap.size := e; omega))
 have hB4 := hB4.tch hT24 (fun e => by have : w.heap.size = w1.heap.size := e; omega)
 have hQ := hQ.tch hT24 (hQ.ne hB8 (by decide))
 replace hB8 : Blk w23 w1.heap.size 25 [.int .i64 ((nu (a0 s) 1 : Nat) : Int), .int .i64 ((nu (a1 s) 1 : Nat) : Int), .slice none 0 0, .int .i64 ((nu (a2 s) 4 : Nat) : Int), .int .i64 0] := hB8'
 refine zS [(18, .pointer (some ⟨w1.heap.size, 4, none⟩))] ?_
 refine st (by rfl) (S_store (b := w1.heap.size) (j := 4) (v := .int .i64 ((nu (a3 s) 4 : Nat) : Int)) (by kernel_rfl) (by kernel_rfl) (by kernel_rfl) (by rfl) hB8 (by simp) fun w26 hT27 hs28 hB8' => ?_)
 have hTq := hTq.trans hT27 (fun _ _ e => e) (fun b hb e => by first | exact e | (have e : b = w1.heap.size := e; omega))
 have hB4 := hB4.tch hT27 (fun e => by have : w.heap.size = w1.heap.size := e; omega)
 have hQ := hQ.tch hT27 (hQ.ne hB8 (by decide))
 replace hB8 : Blk w26 w1.heap.size 25 [.int .i64 ((nu (a0 s) 1 : Nat) : Int), .int .i64 ((nu (a1 s) 1 : Nat) : Int), .slice none 0 0, .int .i64 ((nu (a2 s) 4 : Nat) : Int), .int .i64 ((nu (a3 s) 4 : Nat) : Int)] := hB8'
 refine op_nil ?_
 refine W_seq ?_
 have hO : Own w26 0 43 6 (.slice none 0 0) 0 (tcs []) := Own.nil_ _ _ _ _
 have nB_hO : ∀ c, (Value.slice none 0 0).ownBlock = some c → w1.heap.size + 1 ≤ c := fun c hc => by cases hc
 have hEl : TsE w26 [] (.slice none 0 0) (w1.heap.size + 1) := fun t ht => by cases ht
 have lb_hB4 := hB4.lt
 have lb_hB8 := hB8.lt
 have lb_hQ := hQ.lt
 have hzW : w1.heap.size + 1 ≤ w26.heap.size := by omega
 have haN : aN s < 65536 := nu_2 _
 refine zR ?_
 refine zS [(19, .pointer (some ⟨q, 0, none⟩))] ?_
 have hnu2_103 := nu_2 (a4 s)
 refine zC (num_ok (q) 2 (a4 s) _ hQ (by omega)) ?_
 rintro _ w29 ⟨rfl, hQn, hT30⟩
 have hTq := hTq.trans hT30 (fun _ _ e => e) (fun b hb e => by first | exact e | (have e : b = q := e; omega))
 have hB4 := hB4.tch hT30 (hB4.ne hQ (by decide))
 have hB8 := hB8.tch hT30 (hB8.ne hQ (by decide))
 have hO := hO.tch hT30 (fun c hc e => hO.blk_ne hQ (by decide) c hc e)
 have hEl := hEl.st2 hT30 (fun t ht b hb e => by have e : b = q := e; first | (have h1 := ((hEl t ht).2 b hb).1; omega) | (have h2 := hElt t ht b hb; omega))
 have hzW := Nat.le_trans hzW hT30.size
 have hQ : Blk w29 (q) 69 [.string (bsT ((a5 s).1)), (evO (a5 s).2)] := hQn
 refine zS [(21, .int .i64 (IntKind.i64.wrap ((nu (a4 s) 2 : Nat) : Int)))] ?_
 rw [show IntKind.i64.wrap ((nu (a4 s) 2 : Nat) : Int) = ((nu (a4 s) 2 : Nat) : Int) from wrap_i64 (by omega) (by omega)]
 refine fixR (y := ((aN s : Nat) : Int)) (by first | rfl | (show _ = ((nu (a4 s) 2 : Nat) : Int); omega)) ?_
 refine zS [(5, .int .i64 ((aN s : Nat) : Int))] ?_
 refine op_nil ?_
 refine W_seq ?_
 refine W_block ?_
 refine W_loop (fun m ρ w' => ∃ (B : Option Addr) (n cb j : Nat) (L : List T6) (ρ0 : Env), ρ = updL ρ0 [(0, .pointer (some ⟨q, 0, none⟩)), (2, .pointer (some ⟨w.heap.size, 0, none⟩)), (4, .pointer (some ⟨w1.heap.size, 0, none⟩)), (5, .int .i64 ((aN s : Nat) : Int))] ∧ (j ≤ aN s) ∧ (n = j) ∧ (L.length = j) ∧ (cores L = ptc s j) ∧ (∀ c, (Value.slice B n cb).ownBlock = some c → w1.heap.size + 1 ≤ c) ∧ Blk w' (w.heap.size) 25 [.int .i64 0, .int .i64 0, .slice none 0 0, .int .i64 0, .int .i64 0] ∧ Blk w' (w1.heap.size) 25 [.int .i64 ((nu (a0 s) 1 : Nat) : Int), .int .i64 ((nu (a1 s) 1 : Nat) : Int), .slice B n cb, .int .i64 ((nu (a2 s) 4 : Nat) : Int), .int .i64 ((nu (a3 s) 4 : Nat) : Int)] ∧ Own w' 0 43 6 (.slice B n cb) n (tcs L) ∧ TsE w' L (.slice B n cb) (w1.heap.size + 1) ∧ (w1.heap.size + 1 ≤ (w').heap.size) ∧ Blk w' (q) 69 [.string (bsT ((tst s j).1)), (evO (tst s j).2)] ∧ Tch (one q) w w' ∧ m = aN s + 1 - j) (m := aN s + 1 - 0) ?_ ?_
 ·
  refine ⟨none, 0, 0, 0, [], _, updL_self (by kernel_rfl), by omega, rfl, rfl, rfl, nB_hO, hB4, hB8, hO, hEl, hzW, hQ, hTq, rfl⟩
 ·
  rintro m ρ w31 ⟨B, n, cb, j, L, ρ, rfl, hj, hnj, hLj, hcL, nB_hO, hB4, hQ4, hO, hEl, hzW, hQ, hTq, rfl⟩
  refine W_seq ?_
  refine zQ ?_
  refine zS [(22, .pointer (some ⟨w1.heap.size, 2, none⟩))] ?_
  refine zL (.slice B n cb) ((hQ4.cell 2).trans rfl) ?_
  refine zS [(24, .int .i64 (n : Int)), (25, .int .i64 ((aN s : Nat) : Int)), (26, .bool (decide ((n : Int) < ((aN s : Nat) : Int)))), (27, .bool (decide ((n : Int) < ((aN s : Nat) : Int))))] ?_
  cases hb32 : decide ((n : Int) < ((aN s : Nat) : Int))
  ·
   replace hb32 : ((aN s : Nat) : Int) ≤ (n : Int) := (Int.not_lt.1 (of_decide_eq_false hb32))
   refine zS [(28, undef), (29, undef), (30, undef), (31, undef), (32, undef), (33, .bool false)] ?_
   refine zO false (fun h => nomatch h) (fun _ => ?_)
   refine W_exit ?_
   refine X_hit ?_
   refine W_seq ?_
   refine W_seq ?_
   refine zF [(0, .pointer (some ⟨q, 0, none⟩)), (2, .pointer (some ⟨w.heap.size, 0, none⟩)), (4, .pointer (some ⟨w1.heap.size, 0, none⟩)), (5, .int .i64 ((aN s : Nat) : Int)), (33, .bool false)] fun ρ => ?_
   refine zR ?_
   refine zS [(41, .pointer (some ⟨q, 0, none⟩)), (42, .pointer (some ⟨q, 0, none⟩)), (43, .pointer (some ⟨q, 1, none⟩))] ?_
   refine zL ((evO (tst s j).2)) ((hQ.cell 1).trans rfl) ?_
   refine stv (v := .bool (!((tst s j).2).isSome)) (by rfl) (R_evEql (E := (tst s j).2) (by kernel_rfl)) ?_
   refine zS [(46, .bool (!((tst s j).2).isSome))] ?_
   cases hb33 : (!((tst s j).2).isSome)
   ·
    replace hb33 : ((tst s j).2).isSome = true := ((by simpa using hb33))
    refine zS [(47, undef), (48, undef), (49, undef), (50, undef), (51, undef), (52, .bool false)] ?_
    refine zO false (fun h => nomatch h) (fun _ => ?_)
    refine W_skip ?_
    refine W_seq ?_
    refine zF [(0, .pointer (some ⟨q, 0, none⟩)), (2, .pointer (some ⟨w.heap.size, 0, none⟩)), (4, .pointer (some ⟨w1.heap.size, 0, none⟩)), (5, .int .i64 ((aN s : Nat) : Int)), (33, .bool false), (52, .bool false)] fun ρ => ?_
    refine W_draw (fun w' => Blk w' (q) 69 [.string (bsT ((tst s j).1)), (evO (tst s j).2)] ∧ Blk w' (w1.heap.size) 25 [.int .i64 ((nu (a0 s) 1 : Nat) : Int), .int .i64 ((nu (a1 s) 1 : Nat) : Int), .slice B n cb, .int .i64 ((nu (a2 s) 4 : Nat) : Int), .int .i64 ((nu (a3 s) 4 : Nat) : Int)]) (by kernel_rfl) (by kernel_rfl) (by kernel_rfl) fun w34 hT35 hh36 => ?_
    have hB4 := hB4.tch0 hT35
    have hQ4 := hQ4.tch0 hT35
    have hO := hO.tch0 hT35
    have hEl := hEl.tch0 hT35
    have hzW := Nat.le_trans hzW hT35.size
    have hQ := hQ.tch0 hT35
    have hTq := hTq.then0 hT35
    refine zK [1, 2, 3] #[false, true, true, true, false, false, false] [(58, .pointer (some ⟨q, 0, none⟩)), (59, .pointer (some ⟨q, 0, none⟩)), (60, .pointer (some ⟨q, 1, none⟩))] ⟨hQ, hQ4⟩ ?_
    refine zV 0 rfl (.agg #[.int .i64 ((nu (a0 s) 1 : Nat) : Int), .int .i64 ((nu (a1 s) 1 : Nat) : Int), .slice B n cb, .int .i64 ((nu (a2 s) 4 : Nat) : Int), .int .i64 ((nu (a3 s) 4 : Nat) : Int)]) (fun _ ⟨hQ, hQ4⟩ => R_loadA [.int .i64 ((nu (a0 s) 1 : Nat) : Int), .int .i64 ((nu (a1 s) 1 : Nat) : Int), .slice B n cb, .int .i64 ((nu (a2 s) 4 : Nat) : Int), .int .i64 ((nu (a3 s) 4 : Nat) : Int)] (by kernel_rfl) (by kernel_rfl) (by kernel_rfl) (fun k u hk => by rw [hQ4.cell]; exact get_part _ 0 _ k u rfl hk)) ⟨hQ, hQ4⟩ ?_
    refine zV 4 rfl ((evO (tst s j).2)) (fun _ ⟨hQ, hQ4⟩ => R_load (v := (evO (tst s j).2)) (by kernel_rfl) (by kernel_rfl) ((hQ.cell 1).trans rfl)) ⟨hQ, hQ4⟩ ?_
    refine zD 5 rfl (S_storeA (b := w.heap.size) (j := 0) (cs := [.int .i64 ((nu (a0 s) 1 : Nat) : Int), .int .i64 ((nu (a1 s) 1 : Nat) : Int), .slice B n cb, .int .i64 ((nu (a2 s) 4 : Nat) : Int), .int .i64 ((nu (a3 s) 4 : Nat) : Int)]) (by kernel_rfl) (by kernel_rfl) (by kernel_rfl) (by simp [oneV]) hB4 (by simp) fun w37 hT38 hs39 hB4' => ?_)
    have hQ4 := hQ4.tch hT38 (fun e => by have : w1.heap.size = w.heap.size := e; omega)
    have hO := hO.tch hT38 (fun c hc e => hO.blk_ne hB4 (by decide) c hc e)
    have hEl := hEl.st2 hT38 (fun t ht b hb e => by have e : b = w.heap.size := e; first | (have h1 := ((hEl t ht).2 b hb).1; omega) | (have h2 := hElt t ht b hb; omega))
    have hzW := Nat.le_trans hzW hT38.size
    have hQ := hQ.tch hT38 (hQ.ne hB4 (by decide))
    have hTq := hTq.trans hT38 (fun _ _ e => e) (fun b hb e => by first | exact e | (have e : b = w.heap.size := e; omega))
    replace hB4 : Blk w37 w.heap.size 25 [.int .i64 ((nu (a0 s) 1 : Nat) : Int), .int .i64 ((nu (a1 s) 1 : Nat) : Int), .slice B n cb, .int .i64 ((nu (a2 s) 4 : Nat) : Int), .int .i64 ((nu (a3 s) 4 : Nat) : Int)] := hB4'
    refine ⟨⟨hQ, hQ4⟩, ?_⟩
    refine zK [6] #[true, true, true, true, true, true, true] [(3, (evO (tst s j).2))] ⟨hQ, hQ4⟩ ?_
    refine d_done (by kernel_rfl) ?_
    refine W_ret ?_
    refine ⟨_, Res_cell1 (b := w.heap.size) (cs := [.int .i64 ((nu (a0 s) 1 : Nat) : Int), .int .i64 ((nu (a1 s) 1 : Nat) : Int), .slice B n cb, .int .i64 ((nu (a2 s) 4 : Nat) : Int), .int .i64 ((nu (a3 s) 4 : Nat) : Int)]) (by rfl) (by kernel_rfl) (by kernel_rfl) (by kernel_rfl) hB4 (by kernel_rfl) (by kernel_rfl), ?_⟩
    have hfe := fe_f (j := j) (by omega) (by first | exact .inl (by omega) | exact .inr (by assumption)) (by first | exact .inl (by assumption) | exact .inr (by assumption))
    have hn2 : n = L.length := by omega
    subst hn2
    refine ⟨B, cb, L, by rw [hfe]; rfl, ⟨hO.rdS, fun t ht => (hEl t ht).1⟩, fun hno => cor_of (j := j) (by omega) (by first | exact .inl (by omega) | exact .inr (by assumption)) hcL hno, TsB.of hO hEl nB_hO (by omega), hTq⟩
   ·
    replace hb33 : ((tst s j).2).isSome = false := ((by simpa using hb33))
    refine zS [(47, .pointer (some ⟨q, 0, none⟩)), (48, .pointer (some ⟨q, 0, none⟩)), (49, .pointer (some ⟨q, 0, none⟩))] ?_
    refine zL (.string (bsT ((tst s j).1))) ((hQ.cell 0).trans rfl) ?_
    refine stv (v := .bool (!(decide ((tst s j).1 = [])))) (by kernel_rfl) (R_sne (a := (tst s j).1) (b := []) (by kernel_rfl) (by kernel_rfl)) ?_
    refine zS [(52, .bool (!(decide ((tst s j).1 = []))))] ?_
    refine zO (!(decide ((tst s j).1 = []))) (fun hc40 => ?_) (fun hc40 => ?_)
    ·
     replace hc40 : ¬ ((tst s j).1 = []) := (of_decide_eq_false (not_t hc40))
     refine zF [(0, .pointer (some ⟨q, 0, none⟩)), (2, .pointer (some ⟨w.heap.size, 0, none⟩)), (4, .pointer (some ⟨w1.heap.size, 0, none⟩)), (5, .int .i64 ((aN s : Nat) : Int)), (33, .bool false), (52, .bool (!(decide ((tst s j).1 = []))))] fun ρ => ?_
     refine zR ?_
     refine zS [(53, .pointer (some ⟨q, 0, none⟩)), (54, .iface 72 (.string (bsT ([98, 121, 116, 101, 115, 32, 108, 101, 102, 116])))), (55, .pointer (some ⟨q, 0, none⟩)), (56, .pointer (some ⟨q, 1, none⟩))] ?_
     refine st (by rfl) (S_store (b := q) (j := 1) (v := .iface 72 (.string (bsT ([98, 121, 116, 101, 115, 32, 108, 101, 102, 116])))) (by kernel_rfl) (by kernel_rfl) (by kernel_rfl) (by rfl) hQ (by simp) fun w41 hT42 hs43 hQ' => ?_)
     have hB4 := hB4.tch hT42 (hB4.ne hQ (by decide))
     have hQ4 := hQ4.tch hT42 (hQ4.ne hQ (by decide))
     have hO := hO.tch hT42 (fun c hc e => hO.blk_ne hQ (by decide) c hc e)
     have hEl := hEl.st2 hT42 (fun t ht b hb e => by have e : b = q := e; first | (have h1 := ((hEl t ht).2 b hb).1; omega) | (have h2 := hElt t ht b hb; omega))
     have hzW := Nat.le_trans hzW hT42.size
     have hTq := hTq.trans hT42 (fun _ _ e => e) (fun b hb e => by first | exact e | (have e : b = q := e; omega))
     replace hQ : Blk w41 q 69 [.string (bsT ((tst s j).1)), .iface 72 (.string (bsT ([98, 121, 116, 101, 115, 32, 108, 101, 102, 116])))] := hQ'
     refine op_nil ?_
     refine W_seq ?_
     refine W_draw (fun w' => Blk w' (q) 69 [.string (bsT ((tst s j).1)), .iface 72 (.string (bsT ([98, 121, 116, 101, 115, 32, 108, 101, 102, 116])))] ∧ Blk w' (w1.heap.size) 25 [.int .i64 ((nu (a0 s) 1 : Nat) : Int), .int .i64 ((nu (a1 s) 1 : Nat) : Int), .slice B n cb, .int .i64 ((nu (a2 s) 4 : Nat) : Int), .int .i64 ((nu (a3 s) 4 : Nat) : Int)]) (by kernel_rfl) (by kernel_rfl) (by kernel_rfl) fun w44 hT45 hh46 => ?_
     have hB4 := hB4.tch0 hT45
     have hQ4 := hQ4.tch0 hT45
     have hO := hO.tch0 hT45
     have hEl := hEl.tch0 hT45
     have hzW := Nat.le_trans hzW hT45.size
     have hQ := hQ.tch0 hT45
     have hTq := hTq.then0 hT45
     refine zK [1, 2, 3] #[false, true, true, true, false, false, false] [(58, .pointer (some ⟨q, 0, none⟩)), (59, .pointer (some ⟨q, 0, none⟩)), (60, .pointer (some ⟨q, 1, none⟩))] ⟨hQ, hQ4⟩ ?_
     refine zV 0 rfl (.agg #[.int .i64 ((nu (a0 s) 1 : Nat) : Int), .int .i64 ((nu (a1 s) 1 : Nat) : Int), .slice B n cb, .int .i64 ((nu (a2 s) 4 : Nat) : Int), .int .i64 ((nu (a3 s) 4 : Nat) : Int)]) (fun _ ⟨hQ, hQ4⟩ => R_loadA [.int .i64 ((nu (a0 s) 1 : Nat) : Int), .int .i64 ((nu (a1 s) 1 : Nat) : Int), .slice B n cb, .int .i64 ((nu (a2 s) 4 : Nat) : Int), .int .i64 ((nu (a3 s) 4 : Nat) : Int)] (by kernel_rfl) (by kernel_rfl) (by kernel_rfl) (fun k u hk => by rw [hQ4.cell]; exact get_part _ 0 _ k u rfl hk)) ⟨hQ, hQ4⟩ ?_
     refine zV 4 rfl (.iface 72 (.string (bsT ([98, 121, 116, 101, 115, 32, 108, 101, 102, 116])))) (fun _ ⟨hQ, hQ4⟩ => R_load (v := .iface 72 (.string (bsT ([98, 121, 116, 101, 115, 32, 108, 101, 102, 116])))) (by kernel_rfl) (by kernel_rfl) ((hQ.cell 1).trans rfl)) ⟨hQ, hQ4⟩ ?_
     refine zD 5 rfl (S_storeA (b := w.heap.size) (j := 0) (cs := [.int .i64 ((nu (a0 s) 1 : Nat) : Int), .int .i64 ((nu (a1 s) 1 : Nat) : Int), .slice B n cb, .int .i64 ((nu (a2 s) 4 : Nat) : Int), .int .i64 ((nu (a3 s) 4 : Nat) : Int)]) (by kernel_rfl) (by kernel_rfl) (by kernel_rfl) (by simp [oneV]) hB4 (by simp) fun w47 hT48 hs49 hB4' => ?_)
     have hQ4 := hQ4.tch hT48 (fun e => by have : w1.heap.size = w.heap.size := e; omega)
     have hO := hO.tch hT48 (fun c hc e => hO.blk_ne hB4 (by decide) c hc e)
     have hEl := hEl.st2 hT48 (fun t ht b hb e => by have e : b = w.heap.size := e; first | (have h1 := ((hEl t ht).2 b hb).1; omega) | (have h2 := hElt t ht b hb; omega))
     have hzW := Nat.le_trans hzW hT48.size
     have hQ := hQ.tch hT48 (hQ.ne hB4 (by decide))
     have hTq := hTq.trans hT48 (fun _ _ e => e) (fun b hb e => by first | exact e | (have e : b = w.heap.size := e; omega))
     replace hB4 : Blk w47 w.heap.size 25 [.int .i64 ((nu (a0 s) 1 : Nat) : Int), .int .i64 ((nu (a1 s) 1 : Nat) : Int), .slice B n cb, .int .i64 ((nu (a2 s) 4 : Nat) : Int), .int .i64 ((nu (a3 s) 4 : Nat) : Int)] := hB4'
     refine ⟨⟨hQ, hQ4⟩, ?_⟩
     refine zK [6] #[true, true, true, true, true, true, true] [(3, .iface 72 (.string (bsT ([98, 121, 116, 101, 115, 32, 108, 101, 102, 116]))))] ⟨hQ, hQ4⟩ ?_
     refine d_done (by kernel_rfl) ?_
     refine W_ret ?_
     refine ⟨_, Res_cell1 (b := w.heap.size) (cs := [.int .i64 ((nu (a0 s) 1 : Nat) : Int), .int .i64 ((nu (a1 s) 1 : Nat) : Int), .slice B n cb, .int .i64 ((nu (a2 s) 4 : Nat) : Int), .int .i64 ((nu (a3 s) 4 : Nat) : Int)]) (by rfl) (by kernel_rfl) (by kernel_rfl) (by kernel_rfl) hB4 (by kernel_rfl) (by kernel_rfl), ?_⟩
     have hfe := fe_t (j := j) (by omega) (by first | exact .inl (by omega) | exact .inr (by assumption)) (by assumption) (by assumption)
     have hn2 : n = L.length := by omega
     subst hn2
     refine ⟨B, cb, L, by rw [hfe]; rfl, ⟨hO.rdS, fun t ht => (hEl t ht).1⟩, fun hno => cor_of (j := j) (by omega) (by first | exact .inl (by omega) | exact .inr (by assumption)) hcL hno, TsB.of hO hEl nB_hO (by omega), hTq⟩
    ·
     replace hc40 : (tst s j).1 = [] := (of_decide_eq_true (not_f hc40))
     refine W_skip ?_
     refine W_seq ?_
     refine zF [(0, .pointer (some ⟨q, 0, none⟩)), (2, .pointer (some ⟨w.heap.size, 0, none⟩)), (4, .pointer (some ⟨w1.heap.size, 0, none⟩)), (5, .int .i64 ((aN s : Nat) : Int)), (33, .bool false), (52, .bool (!(decide ((tst s j).1 = []))))] fun ρ => ?_
     refine W_draw (fun w' => Blk w' (q) 69 [.string (bsT ((tst s j).1)), (evO (tst s j).2)] ∧ Blk w' (w1.heap.size) 25 [.int .i64 ((nu (a0 s) 1 : Nat) : Int), .int .i64 ((nu (a1 s) 1 : Nat) : Int), .slice B n cb, .int .i64 ((nu (a2 s) 4 : Nat) : Int), .int .i64 ((nu (a3 s) 4 : Nat) : Int)]) (by kernel_rfl) (by kernel_rfl) (by kernel_rfl) fun w50 hT51 hh52 => ?_
     have hB4 := hB4.tch0 hT51
     have hQ4 := hQ4.tch0 hT51
     have hO := hO.tch0 hT51
     have hEl := hEl.tch0 hT51
     have hzW := Nat.le_trans hzW hT51.size
     have hQ := hQ.tch0 hT51
     have hTq := hTq.then0 hT51
     refine zK [1, 2, 3] #[false, true, true, true, false, false, false] [(58, .pointer (some ⟨q, 0, none⟩)), (59, .pointer (some ⟨q, 0, none⟩)), (60, .pointer (some ⟨q, 1, none⟩))] ⟨hQ, hQ4⟩ ?_
     refine zV 0 rfl (.agg #[.int .i64 ((nu (a0 s) 1 : Nat) : Int), .int .i64 ((nu (a1 s) 1 : Nat) : Int), .slice B n cb, .int .i64 ((nu (a2 s) 4 : Nat) : Int), .int .i64 ((nu (a3 s) 4 : Nat) : Int)]) (fun _ ⟨hQ, hQ4⟩ => R_loadA [.int .i64 ((nu (a0 s) 1 : Nat) : Int), .int .i64 ((nu (a1 s) 1 : Nat) : Int), .slice B n cb, .int .i64 ((nu (a2 s) 4 : Nat) : Int), .int .i64 ((nu (a3 s) 4 : Nat) : Int)] (by kernel_rfl) (by kernel_rfl) (by kernel_rfl) (fun k u hk => by rw [hQ4.cell]; exact get_part _ 0 _ k u rfl hk)) ⟨hQ, hQ4⟩ ?_
     refine zV 4 rfl ((evO (tst s j).2)) (fun _ ⟨hQ, hQ4⟩ => R_load (v := (evO (tst s j).2)) (by kernel_rfl) (by kernel_rfl) ((hQ.cell 1).trans rfl)) ⟨hQ, hQ4⟩ ?_
     refine zD 5 rfl (S_storeA (b := w.heap.size) (j := 0) (cs := [.int .i64 ((nu (a0 s) 1 : Nat) : Int), .int .i64 ((nu (a1 s) 1 : Nat) : Int), .slice B n cb, .int .i64 ((nu (a2 s) 4 : Nat) : Int), .int .i64 ((nu (a3 s) 4 : Nat) : Int)]) (by kernel_rfl) (by kernel_rfl) (by kernel_rfl) (by simp [oneV]) hB4 (by simp) fun w53 hT54 hs55 hB4' => ?_)
     have hQ4 := hQ4.tch hT54 (fun e => by have : w1.heap.size = w.heap.size := e; omega)
     have hO := hO.tch hT54 (fun c hc e => hO.blk_ne hB4 (by decide) c hc e)
     have hEl := hEl.st2 hT54 (fun t ht b hb e => by have e : b = w.heap.size := e; first | (have h1 := ((hEl t ht).2 b hb).1; omega) | (have h2 := hElt t ht b hb; omega))
     have hzW := Nat.le_trans hzW hT54.size
     have hQ := hQ.tch hT54 (hQ.ne hB4 (by decide))
     have hTq := hTq.trans hT54 (fun _ _ e => e) (fun b hb e => by first | exact e | (have e : b = w.heap.size := e; omega))
     replace hB4 : Blk w53 w.heap.size 25 [.int .i64 ((nu (a0 s) 1 : Nat) : Int), .int .i64 ((nu (a1 s) 1 : Nat) : Int), .slice B n cb, .int .i64 ((nu (a2 s) 4 : Nat) : Int), .int .i64 ((nu (a3 s) 4 : Nat) : Int)] := hB4'
     refine ⟨⟨hQ, hQ4⟩, ?_⟩
     refine zK [6] #[true, true, true, true, true, true, true] [(3, (evO (tst s j).2))] ⟨hQ, hQ4⟩ ?_
     refine d_done (by kernel_rfl) ?_
     refine W_ret ?_
     refine ⟨_, Res_cell1 (b := w.heap.size) (cs := [.int .i64 ((nu (a0 s) 1 : Nat) : Int), .int .i64 ((nu (a1 s) 1 : Nat) : Int), .slice B n cb, .int .i64 ((nu (a2 s) 4 : Nat) : Int), .int .i64 ((nu (a3 s) 4 : Nat) : Int)]) (by rfl) (by kernel_rfl) (by kernel_rfl) (by kernel_rfl) hB4 (by kernel_rfl) (by kernel_rfl), ?_⟩
     have hfe := fe_f (j := j) (by omega) (by first | exact .inl (by omega) | exact .inr (by assumption)) (by first | exact .inl (by assumption) | exact .inr (by assumption))
     have hn2 : n = L.length := by omega
     subst hn2
     refine ⟨B, cb, L, by rw [hfe]; rfl, ⟨hO.rdS, fun t ht => (hEl t ht).1⟩, fun hno => cor_of (j := j) (by omega) (by first | exact .inl (by omega) | exact .inr (by assumption)) hcL hno, TsB.of hO hEl nB_hO (by omega), hTq⟩
  ·
   replace hb32 : (n : Int) < ((aN s : Nat) : Int) := (of_decide_eq_true hb32)
   refine zS [(28, .pointer (some ⟨q, 0, none⟩)), (29, .pointer (some ⟨q, 0, none⟩)), (30, .pointer (some ⟨q, 1, none⟩))] ?_
   refine zL ((evO (tst s j).2)) ((hQ.cell 1).trans rfl) ?_
   refine stv (v := .bool (!((tst s j).2).isSome)) (by rfl) (R_evEql (E := (tst s j).2) (by kernel_rfl)) ?_
   refine zS [(33, .bool (!((tst s j).2).isSome))] ?_
   refine zO ((!((tst s j).2).isSome)) (fun hc56 => ?_) (fun hc56 => ?_)
   ·
    replace hc56 : ((tst s j).2).isSome = false := ((by simpa using hc56))
    refine W_skip ?_
    refine W_block ?_
    refine zF [(0, .pointer (some ⟨q, 0, none⟩)), (2, .pointer (some ⟨w.heap.size, 0, none⟩)), (4, .pointer (some ⟨w1.heap.size, 0, none⟩)), (5, .int .i64 ((aN s : Nat) : Int)), (33, .bool (!((tst s j).2).isSome))] fun ρ => ?_
    refine W_drawT (fun w' => Blk w' (w1.heap.size) 25 [.int .i64 ((nu (a0 s) 1 : Nat) : Int), .int .i64 ((nu (a1 s) 1 : Nat) : Int), .slice B n cb, .int .i64 ((nu (a2 s) 4 : Nat) : Int), .int .i64 ((nu (a3 s) 4 : Nat) : Int)]) 6 (by kernel_rfl) (by kernel_rfl) (by kernel_rfl) fun w57 hT58 hh59 => ?_
    have hB4 := hB4.tch0 hT58
    have hQ4 := hQ4.tch0 hT58
    have hO := hO.tch0 hT58
    have hEl := hEl.tch0 hT58
    have hzW := Nat.le_trans hzW hT58.size
    have hQ := hQ.tch0 hT58
    have hTq := hTq.then0 hT58
    refine ttk [0, 2] #[true, false, true, false, false, false, false, false] [(34, .pointer (some ⟨w1.heap.size, 2, none⟩)), (36, .pointer (some ⟨q, 0, none⟩))] hQ4 (by kernel_rfl) ?_
    refine t_val (v := .slice B n cb) 1 (by kernel_rfl) (by rfl) (by kernel_rfl) (by kernel_rfl) (by kernel_rfl) (fun w' hs => by have hQ4 := hs; exact R_load (v := .slice B n cb) (by kernel_rfl) (by kernel_rfl) ((hQ4.cell 2).trans rfl)) hQ4 ?_
    have lU_hO := hO.lt
    have hzU := hzW
    refine t_one 3 (by kernel_rfl) (by rfl) (by kernel_rfl) (S_call (args := [.pointer (some ⟨q, 0, none⟩)]) (by kernel_rfl) (test_ok (q) (tst s j) _ hQ) ?_)
    rintro _ w60 ⟨u, rfl, hQn, hUm, hUc, hUf, hT61⟩
    have hB4 := hB4.tch hT61 (hB4.ne hQ (by decide))
    have hQ4 := hQ4.tch hT61 (hQ4.ne hQ (by decide))
    have hO := hO.tch hT61 (fun c hc e => hO.blk_ne hQ (by decide) c hc e)
    have hEl := hEl.st2 hT61 (fun t ht b hb e => by have e : b = q := e; first | (have h1 := ((hEl t ht).2 b hb).1; omega) | (have h2 := hElt t ht b hb; omega))
    have hzW := Nat.le_trans hzW hT61.size
    have hTq := hTq.trans hT61 (fun _ _ e => e) (fun b hb e => by first | exact e | (have e : b = q := e; omega))
    have hQ : Blk w60 (q) 69 [.string (bsT ((tst s (j + 1)).1)), (evO (tst s (j + 1)).2)] := hQn
    refine ⟨fun _ => hQ4, ?_⟩
    have hzN := hTq.size
    have lN_hB4 := hB4.lt
    have lN_hQ4 := hQ4.lt
    have lN_hQ := hQ.lt
    have hElt : ∀ t, t ∈ L → ∀ b, t.has b → b < w60.heap.size := fun t ht b hb => (hEl t ht).1.lt b hb
    have hUlt := hUm.lt
    refine t_one 4 (by kernel_rfl) (by rfl) (by kernel_rfl) (S_new (v := .slice (some ⟨w60.heap.size, 0, none⟩) 1 1) (ob := .cells #[.slice u.iA u.inp.length u.iC, .int .i64 u.pt, .int .i64 u.ms, .slice u.gA u.img.length u.gC, .int .i64 u.kd, .int .i64 u.cd] 43) (by kernel_rfl) fun w62 hT63 hs64 hB65 => ?_)
    replace hB65 : Blk w62 (w60.heap.size) 43 [.slice u.iA u.inp.length u.iC, .int .i64 u.pt, .int .i64 u.ms, .slice u.gA u.img.length u.gC, .int .i64 u.kd, .int .i64 u.cd] := hB65
    have hB4 := hB4.tch0 hT63
    have hQ4 := hQ4.tch0 hT63
    have hO := hO.tch0 hT63
    have hEl := hEl.tch0 hT63
    have hzW := Nat.le_trans hzW hT63.size
    have hTq := hTq.then0 hT63
    have hQ := hQ.tch0 hT63
    have hUm := hUm.tch0 hT63
    refine ⟨fun _ => hQ4, ?_⟩
    have lt_hB4 := hB4.lt
    have lt_hQ4 := hQ4.lt
    have lt_hQ := hQ.lt
    have lt_hB65 := hB65.lt
    have lR_hO := hO.lt
    refine t_one 5 (by kernel_rfl) (by rfl) (by kernel_rfl) (S_appendR 23 43 (.agg #[.slice none 0 0, .int .i64 0, .int .i64 0, .slice none 0 0, .int .i64 0, .int .i64 0]) 6 80 (n := n) (m := 1) (A := B) (cp := cb) (cells := tcs L) (news := [.slice u.iA u.inp.length u.iC, .int .i64 u.pt, .int .i64 u.ms, .slice u.gA u.img.length u.gC, .int .i64 u.kd, .int .i64 u.cd]) (b := w60.heap.size) (off := 0) (c := 1) (by kernel_rfl) (by kernel_rfl) (by decide) (by kernel_rfl) (by kernel_rfl) (by kernel_rfl) hO (by rfl) (fun k u hk => by rw [Nat.zero_add, hB65.cell]; exact hk) (by simp [oneV]) (by simp only [maxLen]; omega) (by omega) fun A66 c66 w66 hO66 hw66 hT66 => ?_)
    have hEl9 : TsE w66 (L ++ [u]) (.slice A66 (n + 1) c66) (w1.heap.size + 1) := hEl.app hT66 hw66 hUm (fun b hb => ⟨by have := hUf b hb; omega, fun e => by have h1 := hUf b hb; have h2 := lU_hO b e; omega⟩)
    have hzW0 := hzW
    have hB4 := hB4.tch hT66 (fun e => hO.blk_ne hB4 (by decide) _ e rfl)
    have hQ4 := hQ4.tch hT66 (fun e => hO.blk_ne hQ4 (by decide) _ e rfl)
    have hzW := Nat.le_trans hzW hT66.size
    have hTq := hTq.trans hT66 (fun _ _ e => e) (fun b hb e => by have := nB_hO b e; omega)
    have hQ := hQ.tch hT66 (fun e => hO.blk_ne hQ (by decide) _ e rfl)
    have hO : Own w66 0 43 6 (.slice A66 (n + 1) c66) (n + 1) (tcs (L ++ [u])) := by rw [tcs_snoc]; exact hO66
    have nB_hO : ∀ c, (Value.slice A66 (n + 1) c66).ownBlock = some c → w1.heap.size + 1 ≤ c := fun c hc => (hw66 c hc).elim (nB_hO c) (fun q => by omega)
    have hEl := hEl9
    refine ⟨fun _ => hQ4, ?_⟩
    refine t_one 6 (by kernel_rfl) (by rfl) (by kernel_rfl) (S_val (v := .pointer (some ⟨w1.heap.size, 2, none⟩)) (plainV_run (by kernel_rfl) _) ?_)
    refine ⟨fun h => absurd h (by decide), ?_⟩
    refine t_one 7 (by kernel_rfl) (by rfl) (by kernel_rfl) (S_store (b := w1.heap.size) (j := 2) (v := .slice A66 (n + 1) c66) (by kernel_rfl) (by kernel_rfl) (by kernel_rfl) (by rfl) hQ4 (by simp) fun w67 hT68 hs69 hQ4' => ?_)
    have hB4 := hB4.tch hT68 (fun e => by have : w.heap.size = w1.heap.size := e; omega)
    have hzW := Nat.le_trans hzW hT68.size
    have hTq := hTq.trans hT68 (fun _ _ e => e) (fun b hb e => by first | exact e | (have e : b = w1.heap.size := e; omega))
    have hQ := hQ.tch hT68 (hQ.ne hQ4 (by decide))
    have hO := hO.tch hT68 (fun c hc e => hO.blk_ne hQ4 (by decide) c hc e)
    have hEl := hEl.st2 hT68 (fun t ht b hb e => by have e : b = w1.heap.size := e; first | (have h1 := ((hEl t ht).2 b hb).1; omega) | (have h2 := hElt t ht b hb; omega))
    replace hQ4 : Blk w67 w1.heap.size 25 [.int .i64 ((nu (a0 s) 1 : Nat) : Int), .int .i64 ((nu (a1 s) 1 : Nat) : Int), .slice A66 (n + 1) c66, .int .i64 ((nu (a2 s) 4 : Nat) : Int), .int .i64 ((nu (a3 s) 4 : Nat) : Int)] := hQ4'
    refine ⟨fun h => absurd h (by decide), ?_⟩
    refine t_done (by kernel_rfl) ?_
    refine ⟨_, (by omega), A66, n + 1, c66, j + 1, L ++ [u], _, updL_self (by kernel_rfl), (by omega), (by omega), (by rw [List.length_append]; simp only [List.length_cons, List.length_nil]; omega), (by rw [cores_snoc, ptc_step, hcL, hUc]), nB_hO, hB4, hQ4, hO, hEl, hzW, hQ, hTq, rfl⟩
   ·
    replace hc56 : ((tst s j).2).isSome = true := ((by simpa using hc56))
    refine W_exit ?_
    refine X_hit ?_
    refine W_seq ?_
    refine W_seq ?_
    refine zF [(0, .pointer (some ⟨q, 0, none⟩)), (2, .pointer (some ⟨w.heap.size, 0, none⟩)), (4, .pointer (some ⟨w1.heap.size, 0, none⟩)), (5, .int .i64 ((aN s : Nat) : Int)), (33, .bool (!((tst s j).2).isSome))] fun ρ => ?_
    refine zR ?_
    refine zS [(41, .pointer (some ⟨q, 0, none⟩)), (42, .pointer (some ⟨q, 0, none⟩)), (43, .pointer (some ⟨q, 1, none⟩))] ?_
    refine zL ((evO (tst s j).2)) ((hQ.cell 1).trans rfl) ?_
    refine stv (v := .bool (!((tst s j).2).isSome)) (by rfl) (R_evEql (E := (tst s j).2) (by kernel_rfl)) ?_
    refine zS [(46, .bool (!((tst s j).2).isSome))] ?_
    cases hb70 : (!((tst s j).2).isSome)
    ·
     replace hb70 : ((tst s j).2).isSome = true := ((by simpa using hb70))
     refine zS [(47, undef), (48, undef), (49, undef), (50, undef), (51, undef), (52, .bool false)] ?_
     refine zO false (fun h => nomatch h) (fun _ => ?_)
     refine W_skip ?_
     refine W_seq ?_
     refine zF [(0, .pointer (some ⟨q, 0, none⟩)), (2, .pointer (some ⟨w.heap.size, 0, none⟩)), (4, .pointer (some ⟨w1.heap.size, 0, none⟩)), (5, .int .i64 ((aN s : Nat) : Int)), (33, .bool false), (52, .bool false)] fun ρ => ?_
     refine W_draw (fun w' => Blk w' (q) 69 [.string (bsT ((tst s j).1)), (evO (tst s j).2)] ∧ Blk w' (w1.heap.size) 25 [.int .i64 ((nu (a0 s) 1 : Nat) : Int), .int .i64 ((nu (a1 s) 1 : Nat) : Int), .slice B n cb, .int .i64 ((nu (a2 s) 4 : Nat) : Int), .int .i64 ((nu (a3 s) 4 : Nat) : Int)]) (by kernel_rfl) (by kernel_rfl) (by kernel_rfl) fun w71 hT72 hh73 => ?_
     have hB4 := hB4.tch0 hT72
     have hQ4 := hQ4.tch0 hT72
     have hO := hO.tch0 hT72
     have hEl := hEl.tch0 hT72
     have hzW := Nat.le_trans hzW hT72.size
     have hQ := hQ.tch0 hT72
     have hTq := hTq.then0 hT72
     refine zK [1, 2, 3] #[false, true, true, true, false, false, false] [(58, .pointer (some ⟨q, 0, none⟩)), (59, .pointer (some ⟨q, 0, none⟩)), (60, .pointer (some ⟨q, 1, none⟩))] ⟨hQ, hQ4⟩ ?_
     refine zV 0 rfl (.agg #[.int .i64 ((nu (a0 s) 1 : Nat) : Int), .int .i64 ((nu (a1 s) 1 : Nat) : Int), .slice B n cb, .int .i64 ((nu (a2 s) 4 : Nat) : Int), .int .i64 ((nu (a3 s) 4 : Nat) : Int)]) (fun _ ⟨hQ, hQ4⟩ => R_loadA [.int .i64 ((nu (a0 s) 1 : Nat) : Int), .int .i64 ((nu (a1 s) 1 : Nat) : Int), .slice B n cb, .int .i64 ((nu (a2 s) 4 : Nat) : Int), .int .i64 ((nu (a3 s) 4 : Nat) : Int)] (by kernel_rfl) (by kernel_rfl) (by kernel_rfl) (fun k u hk => by rw [hQ4.cell]; exact get_part _ 0 _ k u rfl hk)) ⟨hQ, hQ4⟩ ?_
     refine zV 4 rfl ((evO (tst s j).2)) (fun _ ⟨hQ, hQ4⟩ => R_load (v := (evO (tst s j).2)) (by kernel_rfl) (by kernel_rfl) ((hQ.cell 1).trans rfl)) ⟨hQ, hQ4⟩ ?_
     refine zD 5 rfl (S_storeA (b := w.heap.size) (j := 0) (cs := [.int .i64 ((nu (a0 s) 1 : Nat) : Int), .int .i64 ((nu (a1 s) 1 : Nat) : Int), .slice B n cb, .int .i64 ((nu (a2 s) 4 : Nat) : Int), .int .i64 ((nu (a3 s) 4 : Nat) : Int)]) (by kernel_rfl) (by kernel_rfl) (by kernel_rfl) (by simp [oneV]) hB4 (by simp) fun w74 hT75 hs76 hB4' => ?_)
     have hQ4 := hQ4.tch hT75 (fun e => by have : w1.heap.size = w.heap.size := e; omega)
     have hO := hO.tch hT75 (fun c hc e => hO.blk_ne hB4 (by decide) c hc e)
     have hEl := hEl.st2 hT75 (fun t ht b hb e => by have e : b = w.heap.size := e; first | (have h1 := ((hEl t ht).2 b hb).1; omega) | (have h2 := hElt t ht b hb; omega))
     have hzW := Nat.le_trans hzW hT75.size
     have hQ := hQ.tch hT75 (hQ.ne hB4 (by decide))
     have hTq := hTq.trans hT75 (fun _ _ e => e) (fun b hb e => by first | exact e | (have e : b = w.heap.size := e; omega))
     replace hB4 : Blk w74 w.heap.size 25 [.int .i64 ((nu (a0 s) 1 : Nat) : Int), .int .i64 ((nu (a1 s) 1 : Nat) : Int), .slice B n cb, .int .i64 ((nu (a2 s) 4 : Nat) : Int), .int .i64 ((nu (a3 s) 4 : Nat) : Int)] := hB4'
     refine ⟨⟨hQ, hQ4⟩, ?_⟩
     refine zK [6] #[true, true, true, true, true, true, true] [(3, (evO (tst s j).2))] ⟨hQ, hQ4⟩ ?_
     refine d_done (by kernel_rfl) ?_
     refine W_ret ?_
     refine ⟨_, Res_cell1 (b := w.heap.size) (cs := [.int .i64 ((nu (a0 s) 1 : Nat) : Int), .int .i64 ((nu (a1 s) 1 : Nat) : Int), .slice B n cb, .int .i64 ((nu (a2 s) 4 : Nat) : Int), .int .i64 ((nu (a3 s) 4 : Nat) : Int)]) (by rfl) (by kernel_rfl) (by kernel_rfl) (by kernel_rfl) hB4 (by kernel_rfl) (by kernel_rfl), ?_⟩
     have hfe := fe_f (j := j) (by omega) (by first | exact .inl (by omega) | exact .inr (by assumption)) (by first | exact .inl (by assumption) | exact .inr (by assumption))
     have hn2 : n = L.length := by omega
     subst hn2
     refine ⟨B, cb, L, by rw [hfe]; rfl, ⟨hO.rdS, fun t ht => (hEl t ht).1⟩, fun hno => cor_of (j := j) (by omega) (by first | exact .inl (by omega) | exact .inr (by assumption)) hcL hno, TsB.of hO hEl nB_hO (by omega), hTq⟩
    ·
     replace hb70 : ((tst s j).2).isSome = false := ((by simpa using hb70))
     first | (exfalso; omega; done) | (exfalso; simp_all; done)

end Go.Proofs.YtlkjhkennbdbnaaV
