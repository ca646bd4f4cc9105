/- Walks of functions of the program and of the document's texts. The conditions stand with each theorem. -/
import Derived.Test.YtlkjhkennbdbnaaJRrepo61x1
import Derived.Test.YtlkjhkennbdbnaaJRrepo61x1
import Derived.Test.YtlkjhkennbdbnaaProg
import Derived.Test.YtlkjhkennbdbnaaJRrepo61x4
set_option linter.unusedVariables false
set_option linter.unusedSimpArgs false
namespace Go.Proofs.YtlkjhkennbdbnaaV
open Go Go.RowKit Go.Proofs

def rn (k : Nat) (t : Tx) : Nat := if t.length < k then 0 else vl (t.take k)
def rr (k : Nat) (t : Tx) : Tx := if t.length < k then [] else t.drop k
def rb (k : Nat) (t : Tx) : Bool := decide (k ≤ t.length)
theorem rn_t {k : Nat} {t : Tx} (h : k ≤ t.length) : rn k t = vl (t.take k) ∧ rr k t = t.drop k := by unfold rn rr; rw [if_neg (by omega), if_neg (by omega)]; exact ⟨rfl, rfl⟩
theorem rn_f {k : Nat} {t : Tx} (h : t.length < k) : rn k t = 0 ∧ rr k t = [] := by unfold rn rr; rw [if_pos h, if_pos h]; exact ⟨rfl, rfl⟩
theorem vl_le {t : Tx} (k : Nat) (h : t.length ≤ k) : vl t < 256 ^ k := Nat.lt_of_lt_of_le (vl_lt t) (Nat.pow_le_pow_right (by decide) h)
theorem vl_1 (t : Tx) : vl (t.take 1) < 256 := vl_le 1 (by rw [List.length_take]; omega)
theorem vl_2 (t : Tx) : vl (t.take 2) < 65536 := vl_le 2 (by rw [List.length_take]; omega)
theorem vl_4 (t : Tx) : vl (t.take 4) < 4294967296 := vl_le 4 (by rw [List.length_take]; omega)
theorem vl_8 (t : Tx) : vl (t.take 8) < 18446744073709551616 := vl_le 8 (by rw [List.length_take]; omega)
theorem rn_1 (t : Tx) : rn 1 t < 256 := by unfold rn; split; omega; exact vl_1 t
theorem rn_2 (t : Tx) : rn 2 t < 65536 := by unfold rn; split; omega; exact vl_2 t
theorem rn_4 (t : Tx) : rn 4 t < 4294967296 := by unfold rn; split; omega; exact vl_4 t
/-! a test parsed -/
def p1k (t : Tx) : Nat := rn 1 t
def p1a (t : Tx) : Tx := rr 1 t
def p1d (t : Tx) : Tx := (p1a t).drop (p1k t)
def p1n (t : Tx) : Nat := ((p1d t).getD 7 0).toNat
def p1e (t : Tx) : Tx := (p1d t).drop 8
def im8 (e : Tx) (i : Nat) : Nat := vl ((e.drop (8 * i)).take 8)
def ims (e : Tx) (n : Nat) : List Nat := (List.range n).map (im8 e)
theorem ims_len (e : Tx) (n : Nat) : (ims e n).length = n := by simp [ims]
theorem ims_step (e : Tx) (n : Nat) : ims e (n + 1) = ims e n ++ [im8 e n] := by simp [ims, List.range_succ]
theorem ims_lt {e : Tx} {n : Nat} : ∀ x, x ∈ ims e n → x < 18446744073709551616 := by
 intro x hx
 unfold ims at hx
 rw [List.mem_map] at hx
 obtain ⟨i, _, rfl⟩ := hx
 exact vl_8 _
def p1b (t : Tx) : Bool := decide (1 ≤ t.length ∧ p1k t ≤ (p1a t).length ∧ 8 ≤ (p1d t).length ∧ 8 * p1n t ≤ (p1e t).length)
def p1c (t : Tx) : Co := ((p1a t).take (p1k t), ((vl ((p1d t).take 2) : Nat) : Int), ((vl (((p1d t).drop 2).take 2) : Nat) : Int), ims (p1e t) (p1n t), ((((p1d t).getD 6 0).toNat : Nat) : Int), ((vl (((p1d t).drop 4).take 2) : Nat) : Int))
def p1r (t : Tx) : Tx := if p1b t = true then (p1e t).drop (8 * p1n t) else []
theorem p1_t {t : Tx} (h : p1b t = true) : p1r t = (p1e t).drop (8 * p1n t) := by unfold p1r; rw [if_pos h]
theorem p1_f {t : Tx} (h : p1b t = false) : p1r t = [] := by unfold p1r; rw [h]; rfl
def RdN (w : World) (n b : Nat) (cells : List Value) : Prop := RdW w 1 n (some ⟨b, 0, none⟩) cells
theorem RdN.st {S : Nat → Prop} {w w' : World} {n b : Nat} {cells : List Value} (h : RdN w n b cells) (k : Tch S w w') (hs : ¬ S b) : RdN w' n b cells :=
 RdW.tchB h k (fun _ b' o s e => by injection e with e; injection e with e; rw [← e]; exact hs)
theorem RdN.tch0 {w w' : World} {n b : Nat} {cells : List Value} (h : RdN w n b cells) (k : Tch N0 w w') : RdN w' n b cells := RdW.tch0 h k
theorem R_ssl8 {P : Program} {ρ : Env} {w : World} {d : Option Tmp} {x lo hi : Operand} {ty : TypeId} {pos : String} {af : Array Edge} {g : Option (Nat × Bool)} {t : TypeId} {a : Tx} {i1 i2 : Int} (j : Nat) (hx : evR ρ x = .string (bsT a)) (hl : evR ρ lo = .int .i64 i1) (hh : evR ρ hi = .int .i64 i2) (ht : pureR P (underlying t) = some .string) (hj : i1 = (j : Int)) (hk : i2 = ((j + 8 : Nat) : Int)) (h2 : j + 8 ≤ a.length) :
  (execOp (evR ρ) ⟨d, .slice t x (some lo) (some hi) none, ty, pos, af, g⟩).run P w = .ok (.value (.string (bsT ((a.drop j).take 8)))) w := by
 have q := R_sslLH (P := P) (w := w) (d := d) (ty := ty) (pos := pos) (af := af) (g := g) j (j + 8) hx hl hh ht hj hk (by omega) h2
 rwa [Nat.add_sub_cancel_left] at q
theorem p1num_ok (t : Tx) (w : World) (h : Ret Try.prog 37 [.string (bsT t), .int .i64 1] w fun v w' => v = .tuple #[.int .i64 ((rn 1 t : Nat) : Int), .string (bsT (rr 1 t)), .bool (rb 1 t)] ∧ Tch N0 w w') : Ret Try.prog 37 [.string (bsT t), .int .i64 1] w fun v w' => v = .tuple #[.int .i64 ((p1k t : Nat) : Int), .string (bsT (p1a t)), .bool (rb 1 t)] ∧ Tch N0 w w' := h
/-- what a test read lies in -/
def Fresh (u : T6) (k : Nat) : Prop := ∀ b, u.has b → k ≤ b
theorem fresh0 (k : Nat) : Fresh t60 k := by
 rintro b (⟨h, _⟩ | ⟨h, _⟩) <;> exact absurd h (by decide)
theorem tm0 (w : World) : TmW w t60 := ⟨RdW.nil_ _ _ _, RdW.nil_ _ _ _, ⟨by unfold b64 t60; decide, by unfold b64 t60; decide, by unfold b64 t60; decide, by unfold b64 t60; decide, fun x h => by cases h⟩⟩
theorem fresh_mk {i ic : Nat} {inp : Tx} {pt ms : Int} {gA : Option Addr} {gC : Nat} {img : List Nat} {kd cd : Int} {k : Nat} (hi : k ≤ i) (hg : ∀ c, (Value.slice gA img.length gC).ownBlock = some c → k ≤ c) : Fresh ⟨some ⟨i, 0, none⟩, ic, inp, pt, ms, gA, gC, img, kd, cd⟩ k := by
 rintro b (⟨_, o, s, e⟩ | ⟨_, o, s, e⟩)
 ·
  injection e with e; injection e with e; omega
 ·
  refine hg b ?_
  have e : gA = some ⟨b, o, s⟩ := e
  rw [e]; rfl
theorem wf_mk {iA gA : Option Addr} {iC gC : Nat} {inp : Tx} {a b c d : Nat} {img : List Nat} (ha : a < 65536) (hb : b < 65536) (hc : c < 65536) (hd : d < 65536) (hi : ∀ x, x ∈ img → x < 18446744073709551616) : wfT ⟨iA, iC, inp, ((a : Nat) : Int), ((b : Nat) : Int), gA, gC, img, ((c : Nat) : Int), ((d : Nat) : Int)⟩ := by
 refine ⟨?_, ?_, ?_, ?_, hi⟩ <;> (unfold b64; simp only; omega)

set_option maxRecDepth 100000 in
theorem rnum1_ok (t : Tx) (w : World) : Ret Try.prog 37 [.string (bsT t), .int .i64 1] w fun v w' => v = .tuple #[.int .i64 ((rn 1 t : Nat) : Int), .string (bsT (rr 1 t)), .bool (rb 1 t)] ∧ Tch N0 w w' := by
 have hvk := vl_1 t
 refine enter Try.func37 rfl rfl ?_
 refine zQ ?_
 refine zS [(4, .int .i64 0), (5, .string (bsT ([]))), (6, .bool false)] ?_
 refine op_nil ?_
 refine W_seq ?_
 refine zQ ?_
 refine zS [(7, .string (bsT t)), (8, .int .i64 ((t.length : Nat) : Int)), (9, .int .i64 1), (10, .bool (decide (((t.length : Nat) : Int) < 1)))] ?_
 refine zO (decide (((t.length : Nat) : Int) < 1)) (fun hc1 => ?_) (fun hc1 => ?_)
 ·
  replace hc1 : ((t.length : Nat) : Int) < 1 := (of_decide_eq_true hc1)
  refine zQ ?_
  refine zS [(4, .int .i64 0), (5, .string (bsT ([]))), (6, .bool false)] ?_
  refine op_nil ?_
  refine W_ret ?_
  exact ⟨_, Res_of (v := .tuple #[.int .i64 0, .string (bsT ([])), .bool false]) (by kernel_rfl), ⟨by rw [(rn_f (by omega)).1, (rn_f (by omega)).2, show rb 1 t = false from decide_eq_false (by omega)]; rfl, Tch.refl _ _⟩⟩
 ·
  replace hc1 : 1 ≤ ((t.length : Nat) : Int) := (Int.not_lt.1 (of_decide_eq_false hc1))
  refine W_skip ?_
  refine W_seq ?_
  refine W_draw (fun w' => True) (by kernel_rfl) (by kernel_rfl) (by kernel_rfl) fun w2 hT3 hh4 => ?_
  have hT0 := hT3
  refine zK [0, 1, 5, 6] #[true, true, false, false, false, true, true, false, false, false, false] [(11, .string (bsT t)), (12, .int .i64 1), (16, .string (bsT t)), (17, .int .i64 1)] trivial ?_
  refine zV 2 rfl (.string (bsT (t.take 1))) (fun _ _ => R_sslH (a := t) (i := 1) 1 (by kernel_rfl) (by kernel_rfl) (by kernel_rfl) rfl (by omega)) trivial ?_
  refine zV 7 rfl (.string (bsT (t.drop 1))) (fun _ _ => R_sslL (a := t) (i := 1) 1 (by kernel_rfl) (by kernel_rfl) (by kernel_rfl) rfl (by omega)) trivial ?_
  refine zD 3 rfl (S_call (args := [.string (bsT (t.take 1))]) (by kernel_rfl) (val_ok (t.take 1) _ (by first | omega | (simp only [List.length_take, List.length_drop]; omega))) ?_)
  rintro _ w5 ⟨rfl, hT6⟩
  have hT0 := hT0.t0 hT6
  refine ⟨trivial, ?_⟩
  refine zK [4] #[true, true, true, true, true, true, true, true, false, false, false] [(15, .int .i64 (IntKind.i64.wrap ((vl (t.take 1) : Nat) : Int)))] trivial ?_
  rw [show IntKind.i64.wrap ((vl (t.take 1) : Nat) : Int) = ((vl (t.take 1) : Nat) : Int) from wrap_i64 (by omega) (by omega)]
  refine zK [8, 9, 10] #[true, true, true, true, true, true, true, true, true, true, true] [(4, .int .i64 ((vl (t.take 1) : Nat) : Int)), (5, .string (bsT (t.drop 1))), (6, .bool true)] trivial ?_
  refine d_done (by kernel_rfl) ?_
  refine W_ret ?_
  exact ⟨_, Res_of (v := .tuple #[.int .i64 ((vl (t.take 1) : Nat) : Int), .string (bsT (t.drop 1)), .bool true]) (by kernel_rfl), ⟨by rw [(rn_t (by omega)).1, (rn_t (by omega)).2, show rb 1 t = true from decide_eq_true (by omega)], hT0⟩⟩

set_option maxRecDepth 100000 in
theorem rnum2_ok (t : Tx) (w : World) : Ret Try.prog 37 [.string (bsT t), .int .i64 2] w fun v w' => v = .tuple #[.int .i64 ((rn 2 t : Nat) : Int), .string (bsT (rr 2 t)), .bool (rb 2 t)] ∧ Tch N0 w w' := by
 have hvk := vl_2 t
 refine enter Try.func37 rfl rfl ?_
 refine zQ ?_
 refine zS [(4, .int .i64 0), (5, .string (bsT ([]))), (6, .bool false)] ?_
 refine op_nil ?_
 refine W_seq ?_
 refine zQ ?_
 refine zS [(7, .string (bsT t)), (8, .int .i64 ((t.length : Nat) : Int)), (9, .int .i64 2), (10, .bool (decide (((t.length : Nat) : Int) < 2)))] ?_
 refine zO (decide (((t.length : Nat) : Int) < 2)) (fun hc1 => ?_) (fun hc1 => ?_)
 ·
  replace hc1 : ((t.length : Nat) : Int) < 2 := (of_decide_eq_true hc1)
  refine zQ ?_
  refine zS [(4, .int .i64 0), (5, .string (bsT ([]))), (6, .bool false)] ?_
  refine op_nil ?_
  refine W_ret ?_
  exact ⟨_, Res_of (v := .tuple #[.int .i64 0, .string (bsT ([])), .bool false]) (by kernel_rfl), ⟨by rw [(rn_f (by omega)).1, (rn_f (by omega)).2, show rb 2 t = false from decide_eq_false (by omega)]; rfl, Tch.refl _ _⟩⟩
 ·
  replace hc1 : 2 ≤ ((t.length : Nat) : Int) := (Int.not_lt.1 (of_decide_eq_false hc1))
  refine W_skip ?_
  refine W_seq ?_
  refine W_draw (fun w' => True) (by kernel_rfl) (by kernel_rfl) (by kernel_rfl) fun w2 hT3 hh4 => ?_
  have hT0 := hT3
  refine zK [0, 1, 5, 6] #[true, true, false, false, false, true, true, false, false, false, false] [(11, .string (bsT t)), (12, .int .i64 2), (16, .string (bsT t)), (17, .int .i64 2)] trivial ?_
  refine zV 2 rfl (.string (bsT (t.take 2))) (fun _ _ => R_sslH (a := t) (i := 2) 2 (by kernel_rfl) (by kernel_rfl) (by kernel_rfl) rfl (by omega)) trivial ?_
  refine zV 7 rfl (.string (bsT (t.drop 2))) (fun _ _ => R_sslL (a := t) (i := 2) 2 (by kernel_rfl) (by kernel_rfl) (by kernel_rfl) rfl (by omega)) trivial ?_
  refine zD 3 rfl (S_call (args := [.string (bsT (t.take 2))]) (by kernel_rfl) (val_ok (t.take 2) _ (by first | omega | (simp only [List.length_take, List.length_drop]; omega))) ?_)
  rintro _ w5 ⟨rfl, hT6⟩
  have hT0 := hT0.t0 hT6
  refine ⟨trivial, ?_⟩
  refine zK [4] #[true, true, true, true, true, true, true, true, false, false, false] [(15, .int .i64 (IntKind.i64.wrap ((vl (t.take 2) : Nat) : Int)))] trivial ?_
  rw [show IntKind.i64.wrap ((vl (t.take 2) : Nat) : Int) = ((vl (t.take 2) : Nat) : Int) from wrap_i64 (by omega) (by omega)]
  refine zK [8, 9, 10] #[true, true, true, true, true, true, true, true, true, true, true] [(4, .int .i64 ((vl (t.take 2) : Nat) : Int)), (5, .string (bsT (t.drop 2))), (6, .bool true)] trivial ?_
  refine d_done (by kernel_rfl) ?_
  refine W_ret ?_
  exact ⟨_, Res_of (v := .tuple #[.int .i64 ((vl (t.take 2) : Nat) : Int), .string (bsT (t.drop 2)), .bool true]) (by kernel_rfl), ⟨by rw [(rn_t (by omega)).1, (rn_t (by omega)).2, show rb 2 t = true from decide_eq_true (by omega)], hT0⟩⟩

set_option maxRecDepth 100000 in
theorem rnum4_ok (t : Tx) (w : World) : Ret Try.prog 37 [.string (bsT t), .int .i64 4] w fun v w' => v = .tuple #[.int .i64 ((rn 4 t : Nat) : Int), .string (bsT (rr 4 t)), .bool (rb 4 t)] ∧ Tch N0 w w' := by
 have hvk := vl_4 t
 refine enter Try.func37 rfl rfl ?_
 refine zQ ?_
 refine zS [(4, .int .i64 0), (5, .string (bsT ([]))), (6, .bool false)] ?_
 refine op_nil ?_
 refine W_seq ?_
 refine zQ ?_
 refine zS [(7, .string (bsT t)), (8, .int .i64 ((t.length : Nat) : Int)), (9, .int .i64 4), (10, .bool (decide (((t.length : Nat) : Int) < 4)))] ?_
 refine zO (decide (((t.length : Nat) : Int) < 4)) (fun hc1 => ?_) (fun hc1 => ?_)
 ·
  replace hc1 : ((t.length : Nat) : Int) < 4 := (of_decide_eq_true hc1)
  refine zQ ?_
  refine zS [(4, .int .i64 0), (5, .string (bsT ([]))), (6, .bool false)] ?_
  refine op_nil ?_
  refine W_ret ?_
  exact ⟨_, Res_of (v := .tuple #[.int .i64 0, .string (bsT ([])), .bool false]) (by kernel_rfl), ⟨by rw [(rn_f (by omega)).1, (rn_f (by omega)).2, show rb 4 t = false from decide_eq_false (by omega)]; rfl, Tch.refl _ _⟩⟩
 ·
  replace hc1 : 4 ≤ ((t.length : Nat) : Int) := (Int.not_lt.1 (of_decide_eq_false hc1))
  refine W_skip ?_
  refine W_seq ?_
  refine W_draw (fun w' => True) (by kernel_rfl) (by kernel_rfl) (by kernel_rfl) fun w2 hT3 hh4 => ?_
  have hT0 := hT3
  refine zK [0, 1, 5, 6] #[true, true, false, false, false, true, true, false, false, false, false] [(11, .string (bsT t)), (12, .int .i64 4), (16, .string (bsT t)), (17, .int .i64 4)] trivial ?_
  refine zV 2 rfl (.string (bsT (t.take 4))) (fun _ _ => R_sslH (a := t) (i := 4) 4 (by kernel_rfl) (by kernel_rfl) (by kernel_rfl) rfl (by omega)) trivial ?_
  refine zV 7 rfl (.string (bsT (t.drop 4))) (fun _ _ => R_sslL (a := t) (i := 4) 4 (by kernel_rfl) (by kernel_rfl) (by kernel_rfl) rfl (by omega)) trivial ?_
  refine zD 3 rfl (S_call (args := [.string (bsT (t.take 4))]) (by kernel_rfl) (val_ok (t.take 4) _ (by first | omega | (simp only [List.length_take, List.length_drop]; omega))) ?_)
  rintro _ w5 ⟨rfl, hT6⟩
  have hT0 := hT0.t0 hT6
  refine ⟨trivial, ?_⟩
  refine zK [4] #[true, true, true, true, true, true, true, true, false, false, false] [(15, .int .i64 (IntKind.i64.wrap ((vl (t.take 4) : Nat) : Int)))] trivial ?_
  rw [show IntKind.i64.wrap ((vl (t.take 4) : Nat) : Int) = ((vl (t.take 4) : Nat) : Int) from wrap_i64 (by omega) (by omega)]
  refine zK [8, 9, 10] #[true, true, true, true, true, true, true, true, true, true, true] [(4, .int .i64 ((vl (t.take 4) : Nat) : Int)), (5, .string (bsT (t.drop 4))), (6, .bool true)] trivial ?_
  refine d_done (by kernel_rfl) ?_
  refine W_ret ?_
  exact ⟨_, Res_of (v := .tuple #[.int .i64 ((vl (t.take 4) : Nat) : Int), .string (bsT (t.drop 4)), .bool true]) (by kernel_rfl), ⟨by rw [(rn_t (by omega)).1, (rn_t (by omega)).2, show rb 4 t = true from decide_eq_true (by omega)], hT0⟩⟩

set_option maxRecDepth 100000 in
set_option maxHeartbeats 2000000 in
theorem rone_ok (t : Tx) (w : World) (ht : t.length ≤ 8200) : Ret Try.prog 38 [.string (bsT t)] w fun v w' => ∃ u : T6, v = .tuple #[.agg (tc u).toArray, .string (bsT (p1r t)), .bool (p1b t)] ∧ TmW w' u ∧ (p1b t = true → core u = p1c t) ∧ Fresh u w.heap.size ∧ Tch N0 w w' := by
 have hpd : (p1d t).length = (p1a t).length - p1k t := List.length_drop
 have hpe : (p1e t).length = (p1d t).length - 8 := List.length_drop
 have hpk : p1k t < 256 := rn_1 t
 have hpn : p1n t < 256 := UInt8.toNat_lt _
 have hpa : (p1a t).length ≤ t.length := by unfold p1a rr; split <;> simp
 refine enter Try.func38 rfl rfl ?_
 refine zQ ?_
 refine st (by rfl) (S_new (v := .pointer (some ⟨w.heap.size, 0, none⟩)) (ob := .cells #[.slice none 0 0, .int .i64 0, .int .i64 0, .slice none 0 0, .int .i64 0, .int .i64 0] 43) (by kernel_rfl) fun w1 hT2 hs3 hB4 => ?_)
 replace hB4 : Blk w1 (w.heap.size) 43 [.slice none 0 0, .int .i64 0, .int .i64 0, .slice none 0 0, .int .i64 0, .int .i64 0] := hB4
 have hT0 := hT2
 refine zS [(3, .string (bsT ([]))), (4, .bool false)] ?_
 refine op_nil ?_
 refine zQ ?_
 have hz9 := hT0.size
 have lt10 := hB4.lt
 refine st (by rfl) (S_new (v := .pointer (some ⟨w1.heap.size, 0, none⟩)) (ob := .cells #[.slice none 0 0, .int .i64 0, .int .i64 0, .slice none 0 0, .int .i64 0, .int .i64 0] 43) (by kernel_rfl) fun w5 hT6 hs7 hB8 => ?_)
 replace hB8 : Blk w5 (w1.heap.size) 43 [.slice none 0 0, .int .i64 0, .int .i64 0, .slice none 0 0, .int .i64 0, .int .i64 0] := hB8
 have hT0 := hT0.t0 hT6
 have hB4 := hB4.tch0 hT6
 refine op_nil ?_
 refine zQ ?_
 refine zS [(11, .string (bsT t))] ?_
 refine zC (p1num_ok t _ (rnum1_ok t _)) ?_
 rintro _ w11 ⟨rfl, hT12⟩
 have hT0 := hT0.t0 hT12
 have hB4 := hB4.tch0 hT12
 have hB8 := hB8.tch0 hT12
 refine zS [(10, .tuple #[.int .i64 ((p1k t : Nat) : Int), .string (bsT (p1a t)), .bool (rb 1 t)]), (13, .int .i64 ((p1k t : Nat) : Int)), (14, .string (bsT (p1a t))), (15, .bool (rb 1 t)), (6, .int .i64 ((p1k t : Nat) : Int)), (0, .string (bsT (p1a t))), (7, .bool (rb 1 t))] ?_
 refine op_nil ?_
 refine W_seq ?_
 refine W_seq ?_
 refine zF [(0, .string (bsT (p1a t))), (2, .pointer (some ⟨w.heap.size, 0, none⟩)), (3, .string (bsT ([]))), (4, .bool false), (5, .pointer (some ⟨w1.heap.size, 0, none⟩)), (6, .int .i64 ((p1k t : Nat) : Int)), (7, .bool (rb 1 t))] fun ρ => ?_
 refine zR ?_
 refine zS [(16, .bool (rb 1 t)), (17, .bool (!(rb 1 t))), (18, .bool (!(rb 1 t)))] ?_
 cases hb13 : rb 1 t
 ·
  replace hb13 : t.length < 1 := (Nat.lt_of_not_le (of_decide_eq_false hb13))
  refine zS [(19, undef), (20, undef), (21, undef), (22, undef), (23, .bool true)] ?_
  refine zO true (fun _ => ?_) (fun h => nomatch h)
  refine W_seq ?_
  refine zF [(0, .string (bsT (p1a t))), (2, .pointer (some ⟨w.heap.size, 0, none⟩)), (3, .string (bsT ([]))), (4, .bool false), (5, .pointer (some ⟨w1.heap.size, 0, none⟩)), (6, .int .i64 ((p1k t : Nat) : Int)), (7, .bool false), (23, .bool true)] fun ρ => ?_
  refine zR ?_
  refine st (by rfl) (S_val (v := .agg #[.slice none 0 0, .int .i64 0, .int .i64 0, .slice none 0 0, .int .i64 0, .int .i64 0]) (R_loadA [.slice none 0 0, .int .i64 0, .int .i64 0, .slice none 0 0, .int .i64 0, .int .i64 0] (by kernel_rfl) (by kernel_rfl) (by kernel_rfl) (fun k u hk => by rw [hB8.cell]; exact get_part _ 0 _ k u rfl hk)) ?_)
  refine st (by rfl) (S_storeA (b := w.heap.size) (j := 0) (cs := [.slice none 0 0, .int .i64 0, .int .i64 0, .slice none 0 0, .int .i64 0, .int .i64 0]) (by kernel_rfl) (by kernel_rfl) (by kernel_rfl) (by simp [oneV]) hB4 (by simp) fun w14 hT15 hs16 hB4' => ?_)
  have hT0 := (hT0).then hT15 (fun c e => by have : c = w.heap.size := e; omega)
  have hB8 := hB8.tch hT15 (fun e => by have : w1.heap.size = w.heap.size := e; omega)
  replace hB4 : Blk w14 w.heap.size 43 [.slice none 0 0, .int .i64 0, .int .i64 0, .slice none 0 0, .int .i64 0, .int .i64 0] := hB4'
  refine zS [(3, .string (bsT ([]))), (4, .bool false)] ?_
  refine op_nil ?_
  refine W_ret ?_
  refine ⟨_, Res_cell2 (b := w.heap.size) (cs := [.slice none 0 0, .int .i64 0, .int .i64 0, .slice none 0 0, .int .i64 0, .int .i64 0]) (by rfl) (by kernel_rfl) (by kernel_rfl) (by kernel_rfl) (by kernel_rfl) hB4 (by kernel_rfl) (by kernel_rfl), ?_⟩
  refine ⟨t60, by rw [p1_f (decide_eq_false (by omega)), show p1b t = false from decide_eq_false (by omega)]; rfl, tm0 _, fun h => absurd h (by rw [show p1b t = false from decide_eq_false (by omega)]; decide), fresh0 _, hT0⟩
 ·
  replace hb13 : 1 ≤ t.length := (of_decide_eq_true hb13)
  refine zS [(19, .string (bsT (p1a t))), (20, .int .i64 (((p1a t).length : Nat) : Int)), (21, .int .i64 ((p1k t : Nat) : Int)), (22, .bool (decide ((((p1a t).length : Nat) : Int) < ((p1k t : Nat) : Int)))), (23, .bool (decide ((((p1a t).length : Nat) : Int) < ((p1k t : Nat) : Int))))] ?_
  refine zO (decide ((((p1a t).length : Nat) : Int) < ((p1k t : Nat) : Int))) (fun hc17 => ?_) (fun hc17 => ?_)
  ·
   replace hc17 : (((p1a t).length : Nat) : Int) < ((p1k t : Nat) : Int) := (of_decide_eq_true hc17)
   refine W_seq ?_
   refine zF [(0, .string (bsT (p1a t))), (2, .pointer (some ⟨w.heap.size, 0, none⟩)), (3, .string (bsT ([]))), (4, .bool false), (5, .pointer (some ⟨w1.heap.size, 0, none⟩)), (6, .int .i64 ((p1k t : Nat) : Int)), (7, .bool true), (23, .bool (decide ((((p1a t).length : Nat) : Int) < ((p1k t : Nat) : Int))))] fun ρ => ?_
   refine zR ?_
   refine st (by rfl) (S_val (v := .agg #[.slice none 0 0, .int .i64 0, .int .i64 0, .slice none 0 0, .int .i64 0, .int .i64 0]) (R_loadA [.slice none 0 0, .int .i64 0, .int .i64 0, .slice none 0 0, .int .i64 0, .int .i64 0] (by kernel_rfl) (by kernel_rfl) (by kernel_rfl) (fun k u hk => by rw [hB8.cell]; exact get_part _ 0 _ k u rfl hk)) ?_)
   refine st (by rfl) (S_storeA (b := w.heap.size) (j := 0) (cs := [.slice none 0 0, .int .i64 0, .int .i64 0, .slice none 0 0, .int .i64 0, .int .i64 0]) (by kernel_rfl) (by kernel_rfl) (by kernel_rfl) (by simp [oneV]) hB4 (by simp) fun w18 hT19 hs20 hB4' => ?_)
   have hT0 := (hT0).then hT19 (fun c e => by have : c = w.heap.size := e; omega)
   have hB8 := hB8.tch hT19 (fun e => by have : w1.heap.size = w.heap.size := e; omega)
   replace hB4 : Blk w18 w.heap.size 43 [.slice none 0 0, .int .i64 0, .int .i64 0, .slice none 0 0, .int .i64 0, .int .i64 0] := hB4'
   refine zS [(3, .string (bsT ([]))), (4, .bool false)] ?_
   refine op_nil ?_
   refine W_ret ?_
   refine ⟨_, Res_cell2 (b := w.heap.size) (cs := [.slice none 0 0, .int .i64 0, .int .i64 0, .slice none 0 0, .int .i64 0, .int .i64 0]) (by rfl) (by kernel_rfl) (by kernel_rfl) (by kernel_rfl) (by kernel_rfl) hB4 (by kernel_rfl) (by kernel_rfl), ?_⟩
   refine ⟨t60, by rw [p1_f (decide_eq_false (by omega)), show p1b t = false from decide_eq_false (by omega)]; rfl, tm0 _, fun h => absurd h (by rw [show p1b t = false from decide_eq_false (by omega)]; decide), fresh0 _, hT0⟩
  ·
   replace hc17 : ((p1k t : Nat) : Int) ≤ (((p1a t).length : Nat) : Int) := (Int.not_lt.1 (of_decide_eq_false hc17))
   refine W_skip ?_
   refine W_seq ?_
   refine zF [(0, .string (bsT (p1a t))), (2, .pointer (some ⟨w.heap.size, 0, none⟩)), (3, .string (bsT ([]))), (4, .bool false), (5, .pointer (some ⟨w1.heap.size, 0, none⟩)), (6, .int .i64 ((p1k t : Nat) : Int)), (7, .bool true), (23, .bool (decide ((((p1a t).length : Nat) : Int) < ((p1k t : Nat) : Int))))] fun ρ => ?_
   refine zR ?_
   refine zS [(25, .string (bsT (p1a t))), (26, .int .i64 ((p1k t : Nat) : Int))] ?_
   refine stv (v := .string (bsT ((p1a t).take (p1k t)))) (by rfl) (R_sslH (a := p1a t) (i := ((p1k t : Nat) : Int)) (p1k t) (by kernel_rfl) (by kernel_rfl) (by kernel_rfl) rfl (by omega)) ?_
   have lb_hB4 := hB4.lt
   have lb_hB8 := hB8.lt
   refine st (by rfl) (S_s2b (src := 9) (dst := 39) (e := 5) (a := (p1a t).take (p1k t)) (by kernel_rfl) (by kernel_rfl) (by kernel_rfl) (by kernel_rfl) (by first | omega | (simp only [List.length_take, List.length_drop]; omega)) fun cp21 w21 hT21 hs21 hI9 => ?_)
   have hT0 := hT0.t0 hT21
   have hB4 := hB4.tch0 hT21
   have hB8 := hB8.tch0 hT21
   have hzI := hT0.size
   have hgI : w.heap.size ≤ w11.heap.size := by omega
   have hI : RdN w21 (List.length ((p1a t).take (p1k t))) (w11.heap.size) (u8s ((p1a t).take (p1k t))) := hI9
   have hSz : w11.heap.size + 1 ≤ w21.heap.size := by omega
   refine zS [(29, .pointer (some ⟨w1.heap.size, 0, none⟩))] ?_
   refine st (by rfl) (S_store (b := w1.heap.size) (j := 0) (v := .slice (some ⟨w11.heap.size, 0, none⟩) (List.length ((p1a t).take (p1k t))) cp21) (by kernel_rfl) (by kernel_rfl) (by kernel_rfl) (by rfl) hB8 (by simp) fun w22 hT23 hs24 hB8' => ?_)
   have hT0 := (hT0).then hT23 (fun c e => by have : c = w1.heap.size := e; omega)
   have hB4 := hB4.tch hT23 (fun e => by have : w.heap.size = w1.heap.size := e; omega)
   have hI := hI.st hT23 (fun e => by have e : w11.heap.size = w1.heap.size := e; omega)
   have hSz := Nat.le_trans hSz hT23.size
   replace hB8 : Blk w22 w1.heap.size 43 [.slice (some ⟨w11.heap.size, 0, none⟩) (List.length ((p1a t).take (p1k t))) cp21, .int .i64 0, .int .i64 0, .slice none 0 0, .int .i64 0, .int .i64 0] := hB8'
   refine op_nil ?_
   refine zQ ?_
   refine zS [(30, .string (bsT (p1a t))), (31, .int .i64 ((p1k t : Nat) : Int))] ?_
   refine stv (v := .string (bsT (p1d t))) (by rfl) (R_sslL (a := p1a t) (i := ((p1k t : Nat) : Int)) (p1k t) (by kernel_rfl) (by kernel_rfl) (by kernel_rfl) rfl (by omega)) ?_
   refine zS [(0, .string (bsT (p1d t)))] ?_
   refine op_nil ?_
   refine W_seq ?_
   refine W_seq ?_
   refine zF [(0, .string (bsT (p1d t))), (2, .pointer (some ⟨w.heap.size, 0, none⟩)), (3, .string (bsT ([]))), (4, .bool false), (5, .pointer (some ⟨w1.heap.size, 0, none⟩)), (6, .int .i64 ((p1k t : Nat) : Int)), (7, .bool true), (23, .bool (decide ((((p1a t).length : Nat) : Int) < ((p1k t : Nat) : Int))))] fun ρ => ?_
   refine zR ?_
   refine zS [(33, .string (bsT (p1d t))), (34, .int .i64 (((p1d t).length : Nat) : Int)), (35, .bool (decide ((((p1d t).length : Nat) : Int) < 8)))] ?_
   refine zO (decide ((((p1d t).length : Nat) : Int) < 8)) (fun hc25 => ?_) (fun hc25 => ?_)
   ·
    replace hc25 : (((p1d t).length : Nat) : Int) < 8 := (of_decide_eq_true hc25)
    refine zQ ?_
    refine st (by rfl) (S_val (v := .agg #[.slice (some ⟨w11.heap.size, 0, none⟩) (List.length ((p1a t).take (p1k t))) cp21, .int .i64 0, .int .i64 0, .slice none 0 0, .int .i64 0, .int .i64 0]) (R_loadA [.slice (some ⟨w11.heap.size, 0, none⟩) (List.length ((p1a t).take (p1k t))) cp21, .int .i64 0, .int .i64 0, .slice none 0 0, .int .i64 0, .int .i64 0] (by kernel_rfl) (by kernel_rfl) (by kernel_rfl) (fun k u hk => by rw [hB8.cell]; exact get_part _ 0 _ k u rfl hk)) ?_)
    refine st (by rfl) (S_storeA (b := w.heap.size) (j := 0) (cs := [.slice (some ⟨w11.heap.size, 0, none⟩) (List.length ((p1a t).take (p1k t))) cp21, .int .i64 0, .int .i64 0, .slice none 0 0, .int .i64 0, .int .i64 0]) (by kernel_rfl) (by kernel_rfl) (by kernel_rfl) (by simp [oneV]) hB4 (by simp) fun w26 hT27 hs28 hB4' => ?_)
    have hT0 := (hT0).then hT27 (fun c e => by have : c = w.heap.size := e; omega)
    have hB8 := hB8.tch hT27 (fun e => by have : w1.heap.size = w.heap.size := e; omega)
    have hI := hI.st hT27 (fun e => by have e : w11.heap.size = w.heap.size := e; omega)
    have hSz := Nat.le_trans hSz hT27.size
    replace hB4 : Blk w26 w.heap.size 43 [.slice (some ⟨w11.heap.size, 0, none⟩) (List.length ((p1a t).take (p1k t))) cp21, .int .i64 0, .int .i64 0, .slice none 0 0, .int .i64 0, .int .i64 0] := hB4'
    refine zS [(3, .string (bsT ([]))), (4, .bool false)] ?_
    refine op_nil ?_
    refine W_ret ?_
    refine ⟨_, Res_cell2 (b := w.heap.size) (cs := [.slice (some ⟨w11.heap.size, 0, none⟩) (List.length ((p1a t).take (p1k t))) cp21, .int .i64 0, .int .i64 0, .slice none 0 0, .int .i64 0, .int .i64 0]) (by rfl) (by kernel_rfl) (by kernel_rfl) (by kernel_rfl) (by kernel_rfl) hB4 (by kernel_rfl) (by kernel_rfl), ?_⟩
    have hpf : p1b t = false := decide_eq_false (by omega)
    refine ⟨⟨some ⟨w11.heap.size, 0, none⟩, cp21, (p1a t).take (p1k t), ((0 : Nat) : Int), ((0 : Nat) : Int), none, 0, [], ((0 : Nat) : Int), ((0 : Nat) : Int)⟩, by rw [p1_f hpf, hpf]; rfl, ⟨hI, RdW.nil_ _ _ _, wf_mk (by omega) (by omega) (by omega) (by omega) (fun x h => by cases h)⟩, fun h => absurd h (by rw [hpf]; decide), fresh_mk hgI (fun c hc => by cases hc), hT0⟩
   ·
    replace hc25 : 8 ≤ (((p1d t).length : Nat) : Int) := (Int.not_lt.1 (of_decide_eq_false hc25))
    refine W_skip ?_
    refine W_seq ?_
    have hv1 := vl_2 (p1d t)
    have hv2 := vl_2 ((p1d t).drop 2)
    have hv3 := vl_2 ((p1d t).drop 4)
    have hg6 := ((p1d t).getD 6 0).toNat_lt
    have hg7 := ((p1d t).getD 7 0).toNat_lt
    refine zR ?_
    refine zS [(37, .string (bsT (p1d t)))] ?_
    refine stv (v := .string (bsT ((p1d t).take 2))) (by rfl) (R_sslH (a := p1d t) (i := 2) 2 (by kernel_rfl) (by kernel_rfl) (by kernel_rfl) rfl (by omega)) ?_
    refine zC (val_ok ((p1d t).take 2) _ (by first | omega | (simp only [List.length_take, List.length_drop]; omega))) ?_
    rintro _ w29 ⟨rfl, hT30⟩
    have hT0 := hT0.t0 hT30
    have hB4 := hB4.tch0 hT30
    have hB8 := hB8.tch0 hT30
    have hI := hI.tch0 hT30
    have hSz := Nat.le_trans hSz hT30.size
    refine zS [(40, .int .i64 (IntKind.i64.wrap ((vl ((p1d t).take 2) : Nat) : Int)))] ?_
    rw [show IntKind.i64.wrap ((vl ((p1d t).take 2) : Nat) : Int) = ((vl ((p1d t).take 2) : Nat) : Int) from wrap_i64 (by omega) (by omega)]
    refine zS [(41, .pointer (some ⟨w1.heap.size, 1, none⟩))] ?_
    refine st (by rfl) (S_store (b := w1.heap.size) (j := 1) (v := .int .i64 ((vl ((p1d t).take 2) : Nat) : Int)) (by kernel_rfl) (by kernel_rfl) (by kernel_rfl) (by rfl) hB8 (by simp) fun w31 hT32 hs33 hB8' => ?_)
    have hT0 := (hT0).then hT32 (fun c e => by have : c = w1.heap.size := e; omega)
    have hB4 := hB4.tch hT32 (fun e => by have : w.heap.size = w1.heap.size := e; omega)
    have hI := hI.st hT32 (fun e => by have e : w11.heap.size = w1.heap.size := e; omega)
    have hSz := Nat.le_trans hSz hT32.size
    replace hB8 : Blk w31 w1.heap.size 43 [.slice (some ⟨w11.heap.size, 0, none⟩) (List.length ((p1a t).take (p1k t))) cp21, .int .i64 ((vl ((p1d t).take 2) : Nat) : Int), .int .i64 0, .slice none 0 0, .int .i64 0, .int .i64 0] := hB8'
    refine op_nil ?_
    refine W_seq ?_
    refine zF [(0, .string (bsT (p1d t))), (2, .pointer (some ⟨w.heap.size, 0, none⟩)), (3, .string (bsT ([]))), (4, .bool false), (5, .pointer (some ⟨w1.heap.size, 0, none⟩)), (6, .int .i64 ((p1k t : Nat) : Int)), (7, .bool true), (23, .bool (decide ((((p1a t).length : Nat) : Int) < ((p1k t : Nat) : Int)))), (35, .bool (decide ((((p1d t).length : Nat) : Int) < 8)))] fun ρ => ?_
    refine zR ?_
    refine zS [(42, .string (bsT (p1d t)))] ?_
    refine stv (v := .string (bsT (((p1d t).drop 2).take 2))) (by rfl) (R_sslLH (a := p1d t) (i1 := 2) (i2 := 4) 2 4 (by kernel_rfl) (by kernel_rfl) (by kernel_rfl) (by kernel_rfl) rfl rfl (by omega) (by omega)) ?_
    refine zC (val_ok (((p1d t).drop 2).take 2) _ (by first | omega | (simp only [List.length_take, List.length_drop]; omega))) ?_
    rintro _ w34 ⟨rfl, hT35⟩
    have hT0 := hT0.t0 hT35
    have hB4 := hB4.tch0 hT35
    have hB8 := hB8.tch0 hT35
    have hI := hI.tch0 hT35
    have hSz := Nat.le_trans hSz hT35.size
    refine zS [(45, .int .i64 (IntKind.i64.wrap ((vl (((p1d t).drop 2).take 2) : Nat) : Int)))] ?_
    rw [show IntKind.i64.wrap ((vl (((p1d t).drop 2).take 2) : Nat) : Int) = ((vl (((p1d t).drop 2).take 2) : Nat) : Int) from wrap_i64 (by omega) (by omega)]
    refine zS [(46, .pointer (some ⟨w1.heap.size, 2, none⟩))] ?_
    refine st (by rfl) (S_store (b := w1.heap.size) (j := 2) (v := .int .i64 ((vl (((p1d t).drop 2).take 2) : Nat) : Int)) (by kernel_rfl) (by kernel_rfl) (by kernel_rfl) (by rfl) hB8 (by simp) fun w36 hT37 hs38 hB8' => ?_)
    have hT0 := (hT0).then hT37 (fun c e => by have : c = w1.heap.size := e; omega)
    have hB4 := hB4.tch hT37 (fun e => by have : w.heap.size = w1.heap.size := e; omega)
    have hI := hI.st hT37 (fun e => by have e : w11.heap.size = w1.heap.size := e; omega)
    have hSz := Nat.le_trans hSz hT37.size
    replace hB8 : Blk w36 w1.heap.size 43 [.slice (some ⟨w11.heap.size, 0, none⟩) (List.length ((p1a t).take (p1k t))) cp21, .int .i64 ((vl ((p1d t).take 2) : Nat) : Int), .int .i64 ((vl (((p1d t).drop 2).take 2) : Nat) : Int), .slice none 0 0, .int .i64 0, .int .i64 0] := hB8'
    refine op_nil ?_
    refine zQ ?_
    refine zS [(47, .string (bsT (p1d t)))] ?_
    refine stv (v := .string (bsT (((p1d t).drop 4).take 2))) (by rfl) (R_sslLH (a := p1d t) (i1 := 4) (i2 := 6) 4 6 (by kernel_rfl) (by kernel_rfl) (by kernel_rfl) (by kernel_rfl) rfl rfl (by omega) (by omega)) ?_
    refine zC (val_ok (((p1d t).drop 4).take 2) _ (by first | omega | (simp only [List.length_take, List.length_drop]; omega))) ?_
    rintro _ w39 ⟨rfl, hT40⟩
    have hT0 := hT0.t0 hT40
    have hB4 := hB4.tch0 hT40
    have hB8 := hB8.tch0 hT40
    have hI := hI.tch0 hT40
    have hSz := Nat.le_trans hSz hT40.size
    refine zS [(50, .int .i64 (IntKind.i64.wrap ((vl (((p1d t).drop 4).take 2) : Nat) : Int)))] ?_
    rw [show IntKind.i64.wrap ((vl (((p1d t).drop 4).take 2) : Nat) : Int) = ((vl (((p1d t).drop 4).take 2) : Nat) : Int) from wrap_i64 (by omega) (by omega)]
    refine zS [(51, .pointer (some ⟨w1.heap.size, 5, none⟩))] ?_
    refine st (by rfl) (S_store (b := w1.heap.size) (j := 5) (v := .int .i64 ((vl (((p1d t).drop 4).take 2) : Nat) : Int)) (by kernel_rfl) (by kernel_rfl) (by kernel_rfl) (by rfl) hB8 (by simp) fun w41 hT42 hs43 hB8' => ?_)
    have hT0 := (hT0).then hT42 (fun c e => by have : c = w1.heap.size := e; omega)
    have hB4 := hB4.tch hT42 (fun e => by have : w.heap.size = w1.heap.size := e; omega)
    have hI := hI.st hT42 (fun e => by have e : w11.heap.size = w1.heap.size := e; omega)
    have hSz := Nat.le_trans hSz hT42.size
    replace hB8 : Blk w41 w1.heap.size 43 [.slice (some ⟨w11.heap.size, 0, none⟩) (List.length ((p1a t).take (p1k t))) cp21, .int .i64 ((vl ((p1d t).take 2) : Nat) : Int), .int .i64 ((vl (((p1d t).drop 2).take 2) : Nat) : Int), .slice none 0 0, .int .i64 0, .int .i64 ((vl (((p1d t).drop 4).take 2) : Nat) : Int)] := hB8'
    refine op_nil ?_
    refine W_seq ?_
    refine zF [(0, .string (bsT (p1d t))), (2, .pointer (some ⟨w.heap.size, 0, none⟩)), (3, .string (bsT ([]))), (4, .bool false), (5, .pointer (some ⟨w1.heap.size, 0, none⟩)), (6, .int .i64 ((p1k t : Nat) : Int)), (7, .bool true), (23, .bool (decide ((((p1a t).length : Nat) : Int) < ((p1k t : Nat) : Int)))), (35, .bool (decide ((((p1d t).length : Nat) : Int) < 8)))] fun ρ => ?_
    refine zR ?_
    refine zS [(52, .string (bsT (p1d t)))] ?_
    refine stv (v := .int .u8 ((((p1d t).getD 6 0).toNat : Nat) : Int)) (by rfl) (R_six (a := p1d t) (k := .i64) (i := 6) 6 (by kernel_rfl) (by kernel_rfl) (by kernel_rfl) rfl (by omega)) ?_
    refine zS [(54, .int .i64 (IntKind.i64.wrap ((((p1d t).getD 6 0).toNat : Nat) : Int)))] ?_
    rw [show IntKind.i64.wrap ((((p1d t).getD 6 0).toNat : Nat) : Int) = ((((p1d t).getD 6 0).toNat : Nat) : Int) from wrap_i64 (by omega) (by omega)]
    refine zS [(55, .pointer (some ⟨w1.heap.size, 4, none⟩))] ?_
    refine st (by rfl) (S_store (b := w1.heap.size) (j := 4) (v := .int .i64 ((((p1d t).getD 6 0).toNat : Nat) : Int)) (by kernel_rfl) (by kernel_rfl) (by kernel_rfl) (by rfl) hB8 (by simp) fun w44 hT45 hs46 hB8' => ?_)
    have hT0 := (hT0).then hT45 (fun c e => by have : c = w1.heap.size := e; omega)
    have hB4 := hB4.tch hT45 (fun e => by have : w.heap.size = w1.heap.size := e; omega)
    have hI := hI.st hT45 (fun e => by have e : w11.heap.size = w1.heap.size := e; omega)
    have hSz := Nat.le_trans hSz hT45.size
    replace hB8 : Blk w44 w1.heap.size 43 [.slice (some ⟨w11.heap.size, 0, none⟩) (List.length ((p1a t).take (p1k t))) cp21, .int .i64 ((vl ((p1d t).take 2) : Nat) : Int), .int .i64 ((vl (((p1d t).drop 2).take 2) : Nat) : Int), .slice none 0 0, .int .i64 ((((p1d t).getD 6 0).toNat : Nat) : Int), .int .i64 ((vl (((p1d t).drop 4).take 2) : Nat) : Int)] := hB8'
    refine op_nil ?_
    refine zQ ?_
    refine zS [(56, .string (bsT (p1d t)))] ?_
    refine stv (v := .int .u8 ((((p1d t).getD 7 0).toNat : Nat) : Int)) (by rfl) (R_six (a := p1d t) (k := .i64) (i := 7) 7 (by kernel_rfl) (by kernel_rfl) (by kernel_rfl) rfl (by omega)) ?_
    refine zS [(58, .int .i64 (IntKind.i64.wrap ((((p1d t).getD 7 0).toNat : Nat) : Int)))] ?_
    rw [show IntKind.i64.wrap ((((p1d t).getD 7 0).toNat : Nat) : Int) = ((((p1d t).getD 7 0).toNat : Nat) : Int) from wrap_i64 (by omega) (by omega)]
    refine fixR (y := ((p1n t : Nat) : Int)) (by rfl) ?_
    refine zS [(8, .int .i64 ((p1n t : Nat) : Int))] ?_
    refine op_nil ?_
    refine W_seq ?_
    refine zF [(0, .string (bsT (p1d t))), (2, .pointer (some ⟨w.heap.size, 0, none⟩)), (3, .string (bsT ([]))), (4, .bool false), (5, .pointer (some ⟨w1.heap.size, 0, none⟩)), (6, .int .i64 ((p1k t : Nat) : Int)), (7, .bool true), (8, .int .i64 ((p1n t : Nat) : Int)), (23, .bool (decide ((((p1a t).length : Nat) : Int) < ((p1k t : Nat) : Int)))), (35, .bool (decide ((((p1d t).length : Nat) : Int) < 8)))] fun ρ => ?_
    refine zR ?_
    refine zS [(59, .string (bsT (p1d t)))] ?_
    refine stv (v := .string (bsT (p1e t))) (by rfl) (R_sslL (a := p1d t) (i := 8) 8 (by kernel_rfl) (by kernel_rfl) (by kernel_rfl) rfl (by omega)) ?_
    refine zS [(0, .string (bsT (p1e t)))] ?_
    refine op_nil ?_
    refine W_seq ?_
    refine zQ ?_
    refine zS [(61, .string (bsT (p1e t))), (62, .int .i64 (((p1e t).length : Nat) : Int)), (63, .int .i64 ((p1n t : Nat) : Int)), (64, .int .i64 (IntKind.i64.wrap (8 * ((p1n t : Nat) : Int))))] ?_
    rw [show IntKind.i64.wrap (8 * ((p1n t : Nat) : Int)) = 8 * ((p1n t : Nat) : Int) from wrap_i64 (by omega) (by omega)]
    refine zS [(65, .bool (decide ((((p1e t).length : Nat) : Int) < 8 * ((p1n t : Nat) : Int))))] ?_
    refine zO (decide ((((p1e t).length : Nat) : Int) < 8 * ((p1n t : Nat) : Int))) (fun hc47 => ?_) (fun hc47 => ?_)
    ·
     replace hc47 : (((p1e t).length : Nat) : Int) < 8 * ((p1n t : Nat) : Int) := (of_decide_eq_true hc47)
     refine W_seq ?_
     refine zF [(0, .string (bsT (p1e t))), (2, .pointer (some ⟨w.heap.size, 0, none⟩)), (3, .string (bsT ([]))), (4, .bool false), (5, .pointer (some ⟨w1.heap.size, 0, none⟩)), (6, .int .i64 ((p1k t : Nat) : Int)), (7, .bool true), (8, .int .i64 ((p1n t : Nat) : Int)), (23, .bool (decide ((((p1a t).length : Nat) : Int) < ((p1k t : Nat) : Int)))), (35, .bool (decide ((((p1d t).length : Nat) : Int) < 8))), (65, .bool (decide ((((p1e t).length : Nat) : Int) < 8 * ((p1n t : Nat) : Int))))] fun ρ => ?_
     refine zR ?_
     refine st (by rfl) (S_val (v := .agg #[.slice (some ⟨w11.heap.size, 0, none⟩) (List.length ((p1a t).take (p1k t))) cp21, .int .i64 ((vl ((p1d t).take 2) : Nat) : Int), .int .i64 ((vl (((p1d t).drop 2).take 2) : Nat) : Int), .slice none 0 0, .int .i64 ((((p1d t).getD 6 0).toNat : Nat) : Int), .int .i64 ((vl (((p1d t).drop 4).take 2) : Nat) : Int)]) (R_loadA [.slice (some ⟨w11.heap.size, 0, none⟩) (List.length ((p1a t).take (p1k t))) cp21, .int .i64 ((vl ((p1d t).take 2) : Nat) : Int), .int .i64 ((vl (((p1d t).drop 2).take 2) : Nat) : Int), .slice none 0 0, .int .i64 ((((p1d t).getD 6 0).toNat : Nat) : Int), .int .i64 ((vl (((p1d t).drop 4).take 2) : Nat) : Int)] (by kernel_rfl) (by kernel_rfl) (by kernel_rfl) (fun k u hk => by rw [hB8.cell]; exact get_part _ 0 _ k u rfl hk)) ?_)
     refine st (by rfl) (S_storeA (b := w.heap.size) (j := 0) (cs := [.slice (some ⟨w11.heap.size, 0, none⟩) (List.length ((p1a t).take (p1k t))) cp21, .int .i64 ((vl ((p1d t).take 2) : Nat) : Int), .int .i64 ((vl (((p1d t).drop 2).take 2) : Nat) : Int), .slice none 0 0, .int .i64 ((((p1d t).getD 6 0).toNat : Nat) : Int), .int .i64 ((vl (((p1d t).drop 4).take 2) : Nat) : Int)]) (by kernel_rfl) (by kernel_rfl) (by kernel_rfl) (by simp [oneV]) hB4 (by simp) fun w48 hT49 hs50 hB4' => ?_)
     have hT0 := (hT0).then hT49 (fun c e => by have : c = w.heap.size := e; omega)
     have hB8 := hB8.tch hT49 (fun e => by have : w1.heap.size = w.heap.size := e; omega)
     have hI := hI.st hT49 (fun e => by have e : w11.heap.size = w.heap.size := e; omega)
     have hSz := Nat.le_trans hSz hT49.size
     replace hB4 : Blk w48 w.heap.size 43 [.slice (some ⟨w11.heap.size, 0, none⟩) (List.length ((p1a t).take (p1k t))) cp21, .int .i64 ((vl ((p1d t).take 2) : Nat) : Int), .int .i64 ((vl (((p1d t).drop 2).take 2) : Nat) : Int), .slice none 0 0, .int .i64 ((((p1d t).getD 6 0).toNat : Nat) : Int), .int .i64 ((vl (((p1d t).drop 4).take 2) : Nat) : Int)] := hB4'
     refine zS [(3, .string (bsT ([]))), (4, .bool false)] ?_
     refine op_nil ?_
     refine W_ret ?_
     refine ⟨_, Res_cell2 (b := w.heap.size) (cs := [.slice (some ⟨w11.heap.size, 0, none⟩) (List.length ((p1a t).take (p1k t))) cp21, .int .i64 ((vl ((p1d t).take 2) : Nat) : Int), .int .i64 ((vl (((p1d t).drop 2).take 2) : Nat) : Int), .slice none 0 0, .int .i64 ((((p1d t).getD 6 0).toNat : Nat) : Int), .int .i64 ((vl (((p1d t).drop 4).take 2) : Nat) : Int)]) (by rfl) (by kernel_rfl) (by kernel_rfl) (by kernel_rfl) (by kernel_rfl) hB4 (by kernel_rfl) (by kernel_rfl), ?_⟩
     have hpf : p1b t = false := decide_eq_false (by omega)
     refine ⟨⟨some ⟨w11.heap.size, 0, none⟩, cp21, (p1a t).take (p1k t), ((vl ((p1d t).take 2) : Nat) : Int), ((vl (((p1d t).drop 2).take 2) : Nat) : Int), none, 0, [], ((((p1d t).getD 6 0).toNat : Nat) : Int), ((vl (((p1d t).drop 4).take 2) : Nat) : Int)⟩, by rw [p1_f hpf, hpf]; rfl, ⟨hI, RdW.nil_ _ _ _, wf_mk (by omega) (by omega) (by omega) (by omega) (fun x h => by cases h)⟩, fun h => absurd h (by rw [hpf]; decide), fresh_mk hgI (fun c hc => by cases hc), hT0⟩
    ·
     replace hc47 : 8 * ((p1n t : Nat) : Int) ≤ (((p1e t).length : Nat) : Int) := (Int.not_lt.1 (of_decide_eq_false hc47))
     refine W_skip ?_
     refine W_seq ?_
     refine W_seq ?_
     refine zF [(0, .string (bsT (p1e t))), (2, .pointer (some ⟨w.heap.size, 0, none⟩)), (3, .string (bsT ([]))), (4, .bool false), (5, .pointer (some ⟨w1.heap.size, 0, none⟩)), (6, .int .i64 ((p1k t : Nat) : Int)), (7, .bool true), (8, .int .i64 ((p1n t : Nat) : Int)), (23, .bool (decide ((((p1a t).length : Nat) : Int) < ((p1k t : Nat) : Int)))), (35, .bool (decide ((((p1d t).length : Nat) : Int) < 8))), (65, .bool (decide ((((p1e t).length : Nat) : Int) < 8 * ((p1n t : Nat) : Int))))] fun ρ => ?_
     have hO : Own w44 0 44 1 (.slice none 0 0) 0 (u64s []) := Own.nil_ _ _ _ _
     have nB_hO : ∀ c, (Value.slice none 0 0).ownBlock = some c → w11.heap.size + 1 ≤ c := fun c hc => by cases hc
     refine zR ?_
     refine zS [(9, .int .i64 0)] ?_
     refine op_nil ?_
     refine W_block ?_
     refine W_loop (fun m ρ w' => ∃ (B : Option Addr) (n cb i : Nat) (ρ0 : Env), ρ = updL ρ0 [(0, .string (bsT (p1e t))), (2, .pointer (some ⟨w.heap.size, 0, none⟩)), (5, .pointer (some ⟨w1.heap.size, 0, none⟩)), (8, .int .i64 ((p1n t : Nat) : Int)), (9, .int .i64 ((i : Nat) : Int))] ∧ (i ≤ p1n t) ∧ (n = i) ∧ (∀ c, (Value.slice B n cb).ownBlock = some c → w11.heap.size + 1 ≤ c) ∧ Tch N0 w w' ∧ Blk w' (w.heap.size) 43 [.slice none 0 0, .int .i64 0, .int .i64 0, .slice none 0 0, .int .i64 0, .int .i64 0] ∧ Blk w' (w1.heap.size) 43 [.slice (some ⟨w11.heap.size, 0, none⟩) (List.length ((p1a t).take (p1k t))) cp21, .int .i64 ((vl ((p1d t).take 2) : Nat) : Int), .int .i64 ((vl (((p1d t).drop 2).take 2) : Nat) : Int), .slice B n cb, .int .i64 ((((p1d t).getD 6 0).toNat : Nat) : Int), .int .i64 ((vl (((p1d t).drop 4).take 2) : Nat) : Int)] ∧ RdN w' (List.length ((p1a t).take (p1k t))) (w11.heap.size) (u8s ((p1a t).take (p1k t))) ∧ Own w' 0 44 1 (.slice B n cb) n (u64s (ims (p1e t) i)) ∧ (w11.heap.size + 1 ≤ (w').heap.size) ∧ m = p1n t + 1 - i) (m := p1n t + 1 - 0) ?_ ?_
     ·
      refine ⟨none, 0, 0, 0, _, updL_self (by kernel_rfl), by omega, rfl, nB_hO, hT0, hB4, hB8, hI, hO, hSz, rfl⟩
     ·
      rintro m ρ w51 ⟨B, n, cb, i, ρ, rfl, hi, hni, nB_hO, hT0, hB4, hQ5, hI, hO, hSz, rfl⟩
      refine W_seq ?_
      refine zQ ?_
      refine zS [(67, .int .i64 ((i : Nat) : Int)), (68, .int .i64 ((p1n t : Nat) : Int)), (69, .bool (decide (((i : Nat) : Int) < ((p1n t : Nat) : Int))))] ?_
      refine zO (decide (((i : Nat) : Int) < ((p1n t : Nat) : Int))) (fun hc52 => ?_) (fun hc52 => ?_)
      ·
       replace hc52 : ((i : Nat) : Int) < ((p1n t : Nat) : Int) := (of_decide_eq_true hc52)
       refine W_skip ?_
       refine W_seq ?_
       refine W_block ?_
       refine W_drawT (fun w' => Blk w' (w1.heap.size) 43 [.slice (some ⟨w11.heap.size, 0, none⟩) (List.length ((p1a t).take (p1k t))) cp21, .int .i64 ((vl ((p1d t).take 2) : Nat) : Int), .int .i64 ((vl (((p1d t).drop 2).take 2) : Nat) : Int), .slice B n cb, .int .i64 ((((p1d t).getD 6 0).toNat : Nat) : Int), .int .i64 ((vl (((p1d t).drop 4).take 2) : Nat) : Int)]) 12 (by kernel_rfl) (by kernel_rfl) (by kernel_rfl) fun w53 hT54 hh55 => ?_
       have hT0 := hT0.t0 hT54
       have hB4 := hB4.tch0 hT54
       have hQ5 := hQ5.tch0 hT54
       have hI := hI.tch0 hT54
       have hO := hO.tch0 hT54
       have hSz := Nat.le_trans hSz hT54.size
       refine ttk [0, 2, 3, 5] #[true, false, true, true, false, true, false, false, false, false, false, false, false, false] [(72, .pointer (some ⟨w1.heap.size, 3, none⟩)), (74, .string (bsT (p1e t))), (75, .int .i64 ((i : Nat) : Int)), (77, .int .i64 ((i : Nat) : Int))] hQ5 (by kernel_rfl) ?_
       refine t_val (v := .slice B n cb) 1 (by kernel_rfl) (by rfl) (by kernel_rfl) (by kernel_rfl) (by kernel_rfl) (fun w' hs => by have hQ5 := hs; exact R_load (v := .slice B n cb) (by kernel_rfl) (by kernel_rfl) ((hQ5.cell 3).trans rfl)) hQ5 ?_
       refine ttk [4] #[true, true, true, true, true, true, false, false, false, false, false, false, false, false] [(76, .int .i64 (IntKind.i64.wrap (8 * ((i : Nat) : Int))))] hQ5 (by kernel_rfl) ?_
       rw [show IntKind.i64.wrap (8 * ((i : Nat) : Int)) = 8 * ((i : Nat) : Int) from wrap_i64 (by omega) (by omega)]
       refine ttk [6] #[true, true, true, true, true, true, true, false, false, false, false, false, false, false] [(78, .int .i64 (IntKind.i64.wrap (8 * ((i : Nat) : Int))))] hQ5 (by kernel_rfl) ?_
       rw [show IntKind.i64.wrap (8 * ((i : Nat) : Int)) = 8 * ((i : Nat) : Int) from wrap_i64 (by omega) (by omega)]
       refine ttk [7] #[true, true, true, true, true, true, true, true, false, false, false, false, false, false] [(79, .int .i64 (IntKind.i64.wrap ((8 * ((i : Nat) : Int)) + 8)))] hQ5 (by kernel_rfl) ?_
       rw [show IntKind.i64.wrap ((8 * ((i : Nat) : Int)) + 8) = (8 * ((i : Nat) : Int)) + 8 from wrap_i64 (by omega) (by omega)]
       refine t_val (v := .string (bsT (((p1e t).drop (8 * i)).take 8))) 8 (by kernel_rfl) (by rfl) (by kernel_rfl) (by kernel_rfl) (by kernel_rfl) (fun w' hs => by have hQ5 := hs; exact R_ssl8 (a := p1e t) (i1 := 8 * ((i : Nat) : Int)) (i2 := (8 * ((i : Nat) : Int)) + 8) (8 * i) (by kernel_rfl) (by kernel_rfl) (by kernel_rfl) (by kernel_rfl) (by omega) (by omega) (by omega)) hQ5 ?_
       refine t_one 9 (by kernel_rfl) (by rfl) (by kernel_rfl) (S_call (args := [.string (bsT (((p1e t).drop (8 * i)).take 8))]) (by kernel_rfl) (val_ok (((p1e t).drop (8 * i)).take 8) _ (by first | omega | (simp only [List.length_take, List.length_drop]; omega))) ?_)
       rintro _ w56 ⟨rfl, hT57⟩
       have hT0 := hT0.t0 hT57
       have hB4 := hB4.tch0 hT57
       have hQ5 := hQ5.tch0 hT57
       have hI := hI.tch0 hT57
       have hO := hO.tch0 hT57
       have hSz := Nat.le_trans hSz hT57.size
       refine ⟨fun _ => hQ5, ?_⟩
       have hz62 := hT0.size
       have lt63 := hB4.lt
       have lt64 := hQ5.lt
       have lR_hO := hO.lt
       refine t_one 10 (by kernel_rfl) (by rfl) (by kernel_rfl) (S_new (v := .slice (some ⟨w56.heap.size, 0, none⟩) 1 1) (ob := .cells #[.int .u64 ((vl (((p1e t).drop (8 * i)).take 8) : Nat) : Int)] 44) (by kernel_rfl) fun w58 hT59 hs60 hB61 => ?_)
       replace hB61 : Blk w58 (w56.heap.size) 44 [.int .u64 ((vl (((p1e t).drop (8 * i)).take 8) : Nat) : Int)] := hB61
       have hT0 := hT0.t0 hT59
       have hB4 := hB4.tch0 hT59
       have hQ5 := hQ5.tch0 hT59
       have hI := hI.tch0 hT59
       have hO := hO.tch0 hT59
       have hSz := Nat.le_trans hSz hT59.size
       refine ⟨fun _ => hQ5, ?_⟩
       have hz_ := hT0.size
       have lt_hB4 := hB4.lt
       have lt_hQ5 := hQ5.lt
       have lt_hB61 := hB61.lt
       refine t_one 11 (by kernel_rfl) (by rfl) (by kernel_rfl) (S_appendR 41 44 (.int .u64 0) 1 8 (n := n) (m := 1) (A := B) (cp := cb) (cells := u64s (ims (p1e t) i)) (news := [.int .u64 ((vl (((p1e t).drop (8 * i)).take 8) : Nat) : Int)]) (b := w56.heap.size) (off := 0) (c := 1) (by kernel_rfl) (by kernel_rfl) (by decide) (by kernel_rfl) (by kernel_rfl) (by kernel_rfl) hO (by rfl) (fun k u hk => by rw [Nat.zero_add, hB61.cell]; exact hk) (by simp [oneV]) (by simp only [maxLen]; omega) (by omega) fun A65 c65 w65 hO65 hw65 hT65 => ?_)
       have hSz0 := hSz
       have hT0 := (hT0).then hT65 (fun c e => by have := nB_hO c e; omega)
       have hB4 := hB4.tch hT65 (fun e => hO.blk_ne hB4 (by decide) _ e rfl)
       have hQ5 := hQ5.tch hT65 (fun e => hO.blk_ne hQ5 (by decide) _ e rfl)
       have hI := hI.st hT65 (fun e => by have := nB_hO _ e; omega)
       have hSz := Nat.le_trans hSz hT65.size
       have hO : Own w65 0 44 1 (.slice A65 (n + 1) c65) (n + 1) (u64s (ims (p1e t) i ++ [vl (((p1e t).drop (8 * i)).take 8)])) := by rw [u64s_app]; exact hO65
       have nB_hO : ∀ c, (Value.slice A65 (n + 1) c65).ownBlock = some c → w11.heap.size + 1 ≤ c := fun c hc => (hw65 c hc).elim (nB_hO c) (fun q => by omega)
       refine ⟨fun _ => hQ5, ?_⟩
       refine t_one 12 (by kernel_rfl) (by rfl) (by kernel_rfl) (S_val (v := .pointer (some ⟨w1.heap.size, 3, none⟩)) (plainV_run (by kernel_rfl) _) ?_)
       refine ⟨fun h => absurd h (by decide), ?_⟩
       refine t_one 13 (by kernel_rfl) (by rfl) (by kernel_rfl) (S_store (b := w1.heap.size) (j := 3) (v := .slice A65 (n + 1) c65) (by kernel_rfl) (by kernel_rfl) (by kernel_rfl) (by rfl) hQ5 (by simp) fun w66 hT67 hs68 hQ5' => ?_)
       have hT0 := (hT0).then hT67 (fun c e => by have : c = w1.heap.size := e; omega)
       have hB4 := hB4.tch hT67 (fun e => by have : w.heap.size = w1.heap.size := e; omega)
       have hI := hI.st hT67 (fun e => by have e : w11.heap.size = w1.heap.size := e; omega)
       have hSz := Nat.le_trans hSz hT67.size
       have hO := hO.tch hT67 (fun c hc e => hO.blk_ne hQ5 (by decide) c hc e)
       replace hQ5 : Blk w66 w1.heap.size 43 [.slice (some ⟨w11.heap.size, 0, none⟩) (List.length ((p1a t).take (p1k t))) cp21, .int .i64 ((vl ((p1d t).take 2) : Nat) : Int), .int .i64 ((vl (((p1d t).drop 2).take 2) : Nat) : Int), .slice A65 (n + 1) c65, .int .i64 ((((p1d t).getD 6 0).toNat : Nat) : Int), .int .i64 ((vl (((p1d t).drop 4).take 2) : Nat) : Int)] := hQ5'
       refine ⟨fun h => absurd h (by decide), ?_⟩
       refine t_done (by kernel_rfl) ?_
       refine zF [(0, .string (bsT (p1e t))), (2, .pointer (some ⟨w.heap.size, 0, none⟩)), (5, .pointer (some ⟨w1.heap.size, 0, none⟩)), (8, .int .i64 ((p1n t : Nat) : Int)), (9, .int .i64 ((i : Nat) : Int)), (69, .bool (decide (((i : Nat) : Int) < ((p1n t : Nat) : Int))))] fun ρ => ?_
       refine zR ?_
       refine zS [(70, .int .i64 ((i : Nat) : Int)), (71, .int .i64 (IntKind.i64.wrap (((i : Nat) : Int) + 1)))] ?_
       rw [show IntKind.i64.wrap (((i : Nat) : Int) + 1) = ((i : Nat) : Int) + 1 from wrap_i64 (by omega) (by omega)]
       refine fixR (y := ((i + 1 : Nat) : Int)) (by omega) ?_
       refine zS [(9, .int .i64 ((i + 1 : Nat) : Int))] ?_
       refine op_nil ?_
       refine ⟨_, (by omega), A65, n + 1, c65, i + 1, _, updL_self (by kernel_rfl), (by omega), (by omega), nB_hO, hT0, hB4, hQ5, hI, (by rw [ims_step]; exact hO), hSz, rfl⟩
      ·
       replace hc52 : ((p1n t : Nat) : Int) ≤ ((i : Nat) : Int) := (Int.not_lt.1 (of_decide_eq_false hc52))
       refine W_exit ?_
       refine X_hit ?_
       refine W_seq ?_
       refine W_draw (fun w' => Blk w' (w1.heap.size) 43 [.slice (some ⟨w11.heap.size, 0, none⟩) (List.length ((p1a t).take (p1k t))) cp21, .int .i64 ((vl ((p1d t).take 2) : Nat) : Int), .int .i64 ((vl (((p1d t).drop 2).take 2) : Nat) : Int), .slice B n cb, .int .i64 ((((p1d t).getD 6 0).toNat : Nat) : Int), .int .i64 ((vl (((p1d t).drop 4).take 2) : Nat) : Int)]) (by kernel_rfl) (by kernel_rfl) (by kernel_rfl) fun w69 hT70 hh71 => ?_
       have hT0 := hT0.t0 hT70
       have hB4 := hB4.tch0 hT70
       have hQ5 := hQ5.tch0 hT70
       have hI := hI.tch0 hT70
       have hO := hO.tch0 hT70
       have hSz := Nat.le_trans hSz hT70.size
       refine zK [1, 2] #[false, true, true, false, false, false, false, false] [(86, .string (bsT (p1e t))), (87, .int .i64 ((p1n t : Nat) : Int))] hQ5 ?_
       refine zV 0 rfl (.agg #[.slice (some ⟨w11.heap.size, 0, none⟩) (List.length ((p1a t).take (p1k t))) cp21, .int .i64 ((vl ((p1d t).take 2) : Nat) : Int), .int .i64 ((vl (((p1d t).drop 2).take 2) : Nat) : Int), .slice B n cb, .int .i64 ((((p1d t).getD 6 0).toNat : Nat) : Int), .int .i64 ((vl (((p1d t).drop 4).take 2) : Nat) : Int)]) (fun _ hQ5 => R_loadA [.slice (some ⟨w11.heap.size, 0, none⟩) (List.length ((p1a t).take (p1k t))) cp21, .int .i64 ((vl ((p1d t).take 2) : Nat) : Int), .int .i64 ((vl (((p1d t).drop 2).take 2) : Nat) : Int), .slice B n cb, .int .i64 ((((p1d t).getD 6 0).toNat : Nat) : Int), .int .i64 ((vl (((p1d t).drop 4).take 2) : Nat) : Int)] (by kernel_rfl) (by kernel_rfl) (by kernel_rfl) (fun k u hk => by rw [hQ5.cell]; exact get_part _ 0 _ k u rfl hk)) hQ5 ?_
       refine zK [3] #[true, true, true, true, false, false, false, false] [(88, .int .i64 (IntKind.i64.wrap (8 * ((p1n t : Nat) : Int))))] hQ5 ?_
       rw [show IntKind.i64.wrap (8 * ((p1n t : Nat) : Int)) = 8 * ((p1n t : Nat) : Int) from wrap_i64 (by omega) (by omega)]
       refine zV 4 rfl (.string (bsT ((p1e t).drop ((8 * ((p1n t : Nat) : Int)).toNat)))) (fun _ hQ5 => R_sslL (a := p1e t) (i := 8 * ((p1n t : Nat) : Int)) ((8 * ((p1n t : Nat) : Int)).toNat) (by kernel_rfl) (by kernel_rfl) (by kernel_rfl) (by omega) (by omega)) hQ5 ?_
       refine zD 5 rfl (S_storeA (b := w.heap.size) (j := 0) (cs := [.slice (some ⟨w11.heap.size, 0, none⟩) (List.length ((p1a t).take (p1k t))) cp21, .int .i64 ((vl ((p1d t).take 2) : Nat) : Int), .int .i64 ((vl (((p1d t).drop 2).take 2) : Nat) : Int), .slice B n cb, .int .i64 ((((p1d t).getD 6 0).toNat : Nat) : Int), .int .i64 ((vl (((p1d t).drop 4).take 2) : Nat) : Int)]) (by kernel_rfl) (by kernel_rfl) (by kernel_rfl) (by simp [oneV]) hB4 (by simp) fun w72 hT73 hs74 hB4' => ?_)
       have hT0 := (hT0).then hT73 (fun c e => by have : c = w.heap.size := e; omega)
       have hQ5 := hQ5.tch hT73 (fun e => by have : w1.heap.size = w.heap.size := e; omega)
       have hI := hI.st hT73 (fun e => by have e : w11.heap.size = w.heap.size := e; omega)
       have hO := hO.tch hT73 (fun c hc e => hO.blk_ne hB4 (by decide) c hc e)
       have hSz := Nat.le_trans hSz hT73.size
       replace hB4 : Blk w72 w.heap.size 43 [.slice (some ⟨w11.heap.size, 0, none⟩) (List.length ((p1a t).take (p1k t))) cp21, .int .i64 ((vl ((p1d t).take 2) : Nat) : Int), .int .i64 ((vl (((p1d t).drop 2).take 2) : Nat) : Int), .slice B n cb, .int .i64 ((((p1d t).getD 6 0).toNat : Nat) : Int), .int .i64 ((vl (((p1d t).drop 4).take 2) : Nat) : Int)] := hB4'
       refine ⟨hQ5, ?_⟩
       refine zK [6, 7] #[true, true, true, true, true, true, true, true] [(3, .string (bsT ((p1e t).drop ((8 * ((p1n t : Nat) : Int)).toNat)))), (4, .bool true)] hQ5 ?_
       refine d_done (by kernel_rfl) ?_
       refine W_ret ?_
       refine ⟨_, Res_cell2 (b := w.heap.size) (cs := [.slice (some ⟨w11.heap.size, 0, none⟩) (List.length ((p1a t).take (p1k t))) cp21, .int .i64 ((vl ((p1d t).take 2) : Nat) : Int), .int .i64 ((vl (((p1d t).drop 2).take 2) : Nat) : Int), .slice B n cb, .int .i64 ((((p1d t).getD 6 0).toNat : Nat) : Int), .int .i64 ((vl (((p1d t).drop 4).take 2) : Nat) : Int)]) (by rfl) (by kernel_rfl) (by kernel_rfl) (by kernel_rfl) (by kernel_rfl) hB4 (by kernel_rfl) (by kernel_rfl), ?_⟩
       have hpt : p1b t = true := decide_eq_true (by omega)
       have hin : i = p1n t := by omega
       have hni2 := hni.symm
       subst hni2
       have hil := ims_len (p1e t) i
       refine ⟨⟨some ⟨w11.heap.size, 0, none⟩, cp21, (p1a t).take (p1k t), ((vl ((p1d t).take 2) : Nat) : Int), ((vl (((p1d t).drop 2).take 2) : Nat) : Int), B, cb, ims (p1e t) i, ((((p1d t).getD 6 0).toNat : Nat) : Int), ((vl (((p1d t).drop 4).take 2) : Nat) : Int)⟩, by rw [p1_t hpt, hpt, ← hin]; (try simp only [tc, hil]); (try rfl), ⟨hI, by simp only [hil]; exact hO.rdS, wf_mk (by omega) (by omega) (by omega) (by omega) ims_lt⟩, fun _ => by unfold core p1c; rw [← hin]; (try rfl), fresh_mk hgI (fun c hc => by rw [hil] at hc; have := nB_hO c hc; omega), hT0⟩

end Go.Proofs.YtlkjhkennbdbnaaV
