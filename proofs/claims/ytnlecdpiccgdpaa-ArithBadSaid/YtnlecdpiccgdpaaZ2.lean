/- Walks of functions of the program and of the document's texts. The conditions stand with each theorem. -/
import Derived.Test.YtnlecdpiccgdpaaVx13
import Derived.Test.YtnlecdpiccgdpaaProg
import Derived.Test.YtnlecdpiccgdpaaVx4
import Derived.Test.YtnlecdpiccgdpaaInP
set_option linter.unusedVariables false
set_option linter.unusedSimpArgs false
namespace Go.Proofs.YtnlecdpiccgdpaaV
open Go Go.RowKit Go.Proofs

/-- What comes of Row. -/
def RowO (F : Nat → Prop) (p n wd : Nat) (cs : List (List Nat)) (I : Nat → Prop) (x ins : Nat) (w : World) (v : Value) (w' : World) : Prop :=
  ∃ F' n' I' R rc H hc row hold, v = .tuple #[.slice R wd rc, .slice H hold.length hc] ∧ RdX F' w' wd R (nats row) ∧ RdX F' w' hold.length H (nats hold) ∧ (∀ c, blkOf R = some c → w.heap.size ≤ c) ∧ (∀ c, blkOf H = some c → w.heap.size ≤ c) ∧ GObj F' w' p n' cs I' ∧ Mv F F' w w' ∧ RowI n cs I n' I' wd row hold x ins ∧ n' ≤ n + 64 ∧ AdOk H ∧ hold.length ≤ 64

set_option maxRecDepth 100000 in
theorem row_ok (F : Nat → Prop) (p n wd : Nat) (cs : List (List Nat)) (I : Nat → Prop) (x ins : Nat) (w : World) (hG : GObj F w p n cs I) (h1 : 1 ≤ wd) (h2 : wd ≤ 64) (hn : n ≤ 60000000000) : Ret Try.prog 30 [.pointer (some ⟨p, 0, none⟩), .int .i64 ((wd : Nat) : Int), .int .u64 ((x : Nat) : Int), .int .u64 ((ins : Nat) : Int)] w fun v w' => RowO F p n wd cs I x ins w v w' := by
  have hMv := Mv.refl F w
  have hpos := hG.2.pos
  refine enter Try.func30 rfl rfl ?_
  refine W_seq ?_
  refine W_region (by kernel_rfl) ?_
  refine sg [(8, .slice none 0 0), (9, .slice none 0 0)] (by kernel_rfl) ?_
  refine op_nil ?_
  refine W_seq ?_
  refine W_region (by kernel_rfl) ?_
  refine sg [(10, .slice none 0 0), (11, .slice none 0 0)] (by kernel_rfl) ?_
  refine op_nil ?_
  refine W_seq ?_
  refine W_seq ?_
  refine W_region (by kernel_rfl) ?_
  refine sg [(12, .int .i64 0)] (by kernel_rfl) ?_
  refine op_nil ?_
  refine W_block ?_
  refine W_loop (fun m ρ w' => ∃ (F1 : Nat → Prop) (n1 : Nat) (I1 : Nat → Prop) (R : Option Addr) (rc : Nat) (H : Option Addr) (hc : Nat) (row hold : List Nat) (q i : Nat) (ρ0 : Env), ρ = updL ρ0 [(0, .pointer (some ⟨p, 0, none⟩)), (1, .int .i64 ((wd : Nat) : Int)), (2, .int .u64 ((x : Nat) : Int)), (3, .int .u64 ((ins : Nat) : Int)), (8, .slice none 0 0), (9, .slice none 0 0), (10, .slice R i rc), (11, .slice H q hc), (12, .int .i64 ((i : Nat) : Int))] ∧ (i ≤ wd) ∧ (RowI n cs I n1 I1 i row hold x ins) ∧ (q ≤ i) ∧ (n1 ≤ n + i) ∧ (∀ c, (Value.slice R i rc).ownBlock = some c → ¬ F1 c) ∧ (∀ c, (Value.slice R i rc).ownBlock = some c → w.heap.size ≤ c) ∧ (∀ c, (Value.slice H q hc).ownBlock = some c → ¬ F1 c) ∧ (∀ c, (Value.slice H q hc).ownBlock = some c → w.heap.size ≤ c) ∧ (∀ c, (Value.slice R i rc).ownBlock = some c → (Value.slice H q hc).ownBlock = some c → False) ∧ GObj F1 w' p n1 cs I1 ∧ Mv F F1 w w' ∧ Own w' 0 3 1 (.slice R i rc) i (nats row) ∧ Own w' 0 3 1 (.slice H q hc) q (nats hold) ∧ m = wd - i) (m := wd - 0) ?_ ?_
  · refine ⟨F, n, I, none, 0, none, 0, [], [], 0, 0, _, updL_self (by kernel_rfl), by omega, RowI.zero _ _ _ _ _, by omega, by omega, (fun c h => by cases h), (fun c h => by cases h), (fun c h => by cases h), (fun c h => by cases h), (fun c h _ => by cases h), hG, hMv, Own.nil_ _ _ _ _, Own.nil_ _ _ _ _, rfl⟩
  · rintro m ρ w1 ⟨F1, n1, I1, R, rc, H, hc, row, hold, q, i, ρ, rfl, hi, hri, hq, hd, nF_hRo, nB_hRo, nF_hHo, nB_hHo, dj_hRo_hHo, hG, hMv, hRo, hHo, rfl⟩
    have hpos := hG.2.pos
    have hle_ := hri.le
    refine W_seq ?_
    refine W_seq ?_
    refine W_region (by kernel_rfl) ?_
    refine sg [(15, .int .i64 ((i : Nat) : Int)), (16, .int .i64 ((wd : Nat) : Int)), (17, .bool (decide (((i : Nat) : Int) < ((wd : Nat) : Int))))] (by kernel_rfl) ?_
    refine op_nil ?_
    refine W_cond (decide (((i : Nat) : Int) < ((wd : Nat) : Int))) (by kernel_rfl) (by kernel_rfl) (fun hc2 => ?_) (fun hc2 => ?_)
    · replace hc2 : ((i : Nat) : Int) < ((wd : Nat) : Int) := (of_decide_eq_true hc2)
      refine W_skip ?_
      refine W_seq ?_
      refine W_block ?_
      refine W_seq ?_
      refine W_region (by kernel_rfl) ?_
      refine sg [(20, .pointer (some ⟨p, 0, none⟩))] (by kernel_rfl) ?_
      refine st (by rfl) (S_call (args := [.pointer (some ⟨p, 0, none⟩)]) (by kernel_rfl) (true_ok p _) ?_)
      rintro _ w3 ⟨rfl, hT4⟩
      have hG := hG.tch0 hT4
      have hMv := hMv.then0 hT4
      have hRo := hRo.tch0 hT4
      have hHo := hHo.tch0 hT4
      refine sg [(13, .int .i64 0)] (by kernel_rfl) ?_
      refine op_nil ?_
      refine W_seq ?_
      refine W_seq ?_
      refine W_region (by kernel_rfl) ?_
      refine sg [(22, .int .u64 ((ins : Nat) : Int)), (23, .int .i64 ((i : Nat) : Int)), (24, .int .u64 (IntKind.u64.wrap ((i : Nat) : Int)))] (by kernel_rfl) ?_
      rw [show IntKind.u64.wrap ((i : Nat) : Int) = ((i : Nat) : Int) from wrap_u64 (by omega) (by omega)]
      refine stv (v := .int .u64 ((ins / pw i : Nat) : Int)) (by kernel_rfl) (R_shrP (k2 := .u64) ins i (by kernel_rfl) (by kernel_rfl) (by omega)) ?_
      refine sg [(26, .int .u64 (((ins / pw i : Nat) : Int).tmod 2))] (by kernel_rfl) ?_
      rw [show ((ins / pw i : Nat) : Int).tmod 2 = ((ins / pw i : Nat) : Int) % 2 from Int.tmod_eq_emod_of_nonneg (by first | omega | exact Int.natCast_nonneg _)]
      refine sg [(27, .bool ((((ins / pw i : Nat) : Int) % 2) == 1))] (by kernel_rfl) ?_
      refine op_nil ?_
      refine W_cond ((((ins / pw i : Nat) : Int) % 2) == 1) (by kernel_rfl) (by kernel_rfl) (fun hc5 => ?_) (fun hc5 => ?_)
      · replace hc5 : ((ins / pw i : Nat) : Int) % 2 = 1 := (eq_of_beq hc5)
        refine W_seq ?_
        refine W_fg [(0, .pointer (some ⟨p, 0, none⟩)), (1, .int .i64 ((wd : Nat) : Int)), (2, .int .u64 ((x : Nat) : Int)), (3, .int .u64 ((ins : Nat) : Int)), (8, .slice none 0 0), (9, .slice none 0 0), (10, .slice R i rc), (11, .slice H q hc), (12, .int .i64 ((i : Nat) : Int)), (13, .int .i64 0), (17, .bool (decide (((i : Nat) : Int) < ((wd : Nat) : Int)))), (27, .bool ((((ins / pw i : Nat) : Int) % 2) == 1))] (by kernel_rfl) fun ρ => ?_
        refine W_region (by kernel_rfl) ?_
        refine sg [(28, .pointer (some ⟨p, 0, none⟩))] (by kernel_rfl) ?_
        have lR_hRo := hRo.lt
        have lR_hHo := hHo.lt
        refine st (by rfl) (S_call (args := [.pointer (some ⟨p, 0, none⟩)]) (by kernel_rfl) (input_ok F1 p n1 cs I1 _ hG (by omega)) ?_)
        rintro _ w6 ⟨rfl, hG, hm7⟩
        have hMv := hMv.trans hm7
        have hRo := hRo.tch hm7.1 nF_hRo
        have hHo := hHo.tch hm7.1 nF_hHo
        replace hG : GObj F1 w6 p (n1 + 1) cs (fun v => I1 v ∨ v = n1) := hG
        refine sg [(13, .int .i64 ((2 * n1 : Nat) : Int))] (by kernel_rfl) ?_
        refine op_nil ?_
        refine W_seq ?_
        refine W_region (by kernel_rfl) ?_
        refine sg [(30, .int .i64 ((2 * n1 : Nat) : Int)), (14, .int .i64 ((2 * n1 : Nat) : Int))] (by kernel_rfl) ?_
        refine op_nil ?_
        refine W_seq ?_
        refine W_seq ?_
        refine W_region (by kernel_rfl) ?_
        refine sg [(31, .int .u64 ((x : Nat) : Int)), (32, .int .i64 ((i : Nat) : Int))] (by kernel_rfl) ?_
        refine st (by rfl) (S_call (args := [.int .u64 ((x : Nat) : Int), .int .i64 ((i : Nat) : Int)]) (by kernel_rfl) (rbit_ok x i _ (by omega)) ?_)
        rintro _ w8 ⟨rfl, hT9⟩
        have hG := hG.tch0 hT9
        have hMv := hMv.then0 hT9
        have hRo := hRo.tch0 hT9
        have hHo := hHo.tch0 hT9
        refine sg [(34, .bool (!(x.testBit i)))] (by kernel_rfl) ?_
        refine op_nil ?_
        refine W_cond (!(x.testBit i)) (by kernel_rfl) (by kernel_rfl) (fun hc10 => ?_) (fun hc10 => ?_)
        · replace hc10 : x.testBit i = false := ((not_t hc10))
          refine W_fg [(0, .pointer (some ⟨p, 0, none⟩)), (1, .int .i64 ((wd : Nat) : Int)), (2, .int .u64 ((x : Nat) : Int)), (3, .int .u64 ((ins : Nat) : Int)), (8, .slice none 0 0), (9, .slice none 0 0), (10, .slice R i rc), (11, .slice H q hc), (12, .int .i64 ((i : Nat) : Int)), (13, .int .i64 ((2 * n1 : Nat) : Int)), (14, .int .i64 ((2 * n1 : Nat) : Int)), (17, .bool (decide (((i : Nat) : Int) < ((wd : Nat) : Int)))), (27, .bool ((((ins / pw i : Nat) : Int) % 2) == 1)), (34, .bool (!(x.testBit i)))] (by kernel_rfl) fun ρ => ?_
          refine W_region (by kernel_rfl) ?_
          refine sg [(35, .int .i64 ((2 * n1 : Nat) : Int))] (by kernel_rfl) ?_
          refine sg [(36, .int .i64 (IntKind.i64.wrap (BitVec.ofInt 64 ((2 * n1 : Nat) : Int) ^^^ BitVec.ofInt 64 1).toNat))] (by kernel_rfl) ?_
          rw [GateP.not_i64 (2 * n1) (by omega)]
          refine sg [(14, .int .i64 ((GateP.nt (2 * n1) : Nat) : Int))] (by kernel_rfl) ?_
          refine op_nil ?_
          refine W_region (by kernel_rfl) ?_
          refine sg [(37, .slice H q hc), (38, .int .i64 ((GateP.nt (2 * n1) : Nat) : Int))] (by kernel_rfl) ?_
          have hlt_ := hG.1.lt
          have hz15 := hMv.1.size
          refine st (by rfl) (S_new (v := .slice (some ⟨w8.heap.size, 0, none⟩) 1 1) (ob := .cells #[.int .i64 ((GateP.nt (2 * n1) : Nat) : Int)] 3) (by kernel_rfl) fun w11 hT12 hs13 hB14 => ?_)
          replace hB14 : Blk w11 (w8.heap.size) 3 [.int .i64 ((GateP.nt (2 * n1) : Nat) : Int)] := hB14
          have hG := hG.tch0 hT12
          have hMv := hMv.then0 hT12
          have hRo := hRo.tch0 hT12
          have hHo := hHo.tch0 hT12
          have nF_hB14 : ¬ F1 (w8.heap.size) := fun e => by have := hlt_ _ e; omega
          have hz_ := hMv.1.size
          have hGl_ := hG.1.lt
          have lR_hRo := hRo.lt
          have lR_hHo := hHo.lt
          refine st (by rfl) (S_appendR 27 3 (.int .i64 0) 1 8 (n := q) (m := 1) (A := H) (cp := hc) (cells := nats hold) (news := [.int .i64 ((GateP.nt (2 * n1) : Nat) : Int)]) (b := w8.heap.size) (off := 0) (c := 1) (by kernel_rfl) (by kernel_rfl) (by decide) (by kernel_rfl) (by kernel_rfl) (by kernel_rfl) hHo (by rfl) (fun k u hk => by rw [Nat.zero_add, hB14.cell]; exact hk) (by simp [oneV]) (by simp only [maxLen]; omega) (by omega) fun A16 cp17 w18 hO19 hw20 hT21 => ?_)
          have hG := hG.tchS hT21 (fun c e => nF_hHo c e)
          have hMv := hMv.newS hT21 nB_hHo
          have hRo := hRo.tch hT21 (fun c hc e => dj_hRo_hHo c hc e)
          have hHo : Own w18 0 3 1 (.slice A16 (q + 1) cp17) (q + 1) (nats (hold ++ [GateP.nt (2 * n1)])) := by rw [nats_append]; exact hO19
          have nF_hHo : ∀ c, (Value.slice A16 (q + 1) cp17).ownBlock = some c → ¬ F1 c := fun c hc => (hw20 c hc).elim (nF_hHo c) (fun q e => by have := hGl_ _ e; omega)
          have nB_hHo : ∀ c, (Value.slice A16 (q + 1) cp17).ownBlock = some c → w.heap.size ≤ c := fun c hc => (hw20 c hc).elim (nB_hHo c) (fun q => by omega)
          have dj_hRo_hHo : ∀ c, (Value.slice R (i) rc).ownBlock = some c → (Value.slice A16 (q + 1) cp17).ownBlock = some c → False := fun c h1 h2 => (hw20 c h2).elim (fun q => dj_hRo_hHo c h1 q) (fun q => by have := lR_hRo c h1; omega)
          refine sg [(11, .slice A16 (q + 1) cp17)] (by kernel_rfl) ?_
          refine op_nil ?_
          refine W_fg [(0, .pointer (some ⟨p, 0, none⟩)), (1, .int .i64 ((wd : Nat) : Int)), (2, .int .u64 ((x : Nat) : Int)), (3, .int .u64 ((ins : Nat) : Int)), (8, .slice none 0 0), (9, .slice none 0 0), (10, .slice R i rc), (11, .slice A16 (q + 1) cp17), (12, .int .i64 ((i : Nat) : Int)), (13, .int .i64 ((2 * n1 : Nat) : Int)), (14, .int .i64 ((GateP.nt (2 * n1) : Nat) : Int)), (17, .bool (decide (((i : Nat) : Int) < ((wd : Nat) : Int)))), (27, .bool ((((ins / pw i : Nat) : Int) % 2) == 1)), (34, .bool (!(x.testBit i)))] (by kernel_rfl) fun ρ => ?_
          refine W_region (by kernel_rfl) ?_
          refine sg [(47, .slice R i rc), (48, .int .i64 ((2 * n1 : Nat) : Int))] (by kernel_rfl) ?_
          have hlt_ := hG.1.lt
          have hz26 := hMv.1.size
          refine st (by rfl) (S_new (v := .slice (some ⟨w18.heap.size, 0, none⟩) 1 1) (ob := .cells #[.int .i64 ((2 * n1 : Nat) : Int)] 3) (by kernel_rfl) fun w22 hT23 hs24 hB25 => ?_)
          replace hB25 : Blk w22 (w18.heap.size) 3 [.int .i64 ((2 * n1 : Nat) : Int)] := hB25
          have hG := hG.tch0 hT23
          have hMv := hMv.then0 hT23
          have hRo := hRo.tch0 hT23
          have hHo := hHo.tch0 hT23
          have nF_hB25 : ¬ F1 (w18.heap.size) := fun e => by have := hlt_ _ e; omega
          have hz_ := hMv.1.size
          have hGl_ := hG.1.lt
          have lR_hRo := hRo.lt
          have lR_hHo := hHo.lt
          refine st (by rfl) (S_appendR 27 3 (.int .i64 0) 1 8 (n := i) (m := 1) (A := R) (cp := rc) (cells := nats row) (news := [.int .i64 ((2 * n1 : Nat) : Int)]) (b := w18.heap.size) (off := 0) (c := 1) (by kernel_rfl) (by kernel_rfl) (by decide) (by kernel_rfl) (by kernel_rfl) (by kernel_rfl) hRo (by rfl) (fun k u hk => by rw [Nat.zero_add, hB25.cell]; exact hk) (by simp [oneV]) (by simp only [maxLen]; omega) (by omega) fun A27 cp28 w29 hO30 hw31 hT32 => ?_)
          have hG := hG.tchS hT32 (fun c e => nF_hRo c e)
          have hMv := hMv.newS hT32 nB_hRo
          have hHo := hHo.tch hT32 (fun c hc e => dj_hRo_hHo c e hc)
          have hRo : Own w29 0 3 1 (.slice A27 (i + 1) cp28) (i + 1) (nats (row ++ [2 * n1])) := by rw [nats_append]; exact hO30
          have nF_hRo : ∀ c, (Value.slice A27 (i + 1) cp28).ownBlock = some c → ¬ F1 c := fun c hc => (hw31 c hc).elim (nF_hRo c) (fun q e => by have := hGl_ _ e; omega)
          have nB_hRo : ∀ c, (Value.slice A27 (i + 1) cp28).ownBlock = some c → w.heap.size ≤ c := fun c hc => (hw31 c hc).elim (nB_hRo c) (fun q => by omega)
          have dj_hRo_hHo : ∀ c, (Value.slice A27 (i + 1) cp28).ownBlock = some c → (Value.slice A16 (q + 1) cp17).ownBlock = some c → False := fun c h1 h2 => (hw31 c h1).elim (fun q => dj_hRo_hHo c q h2) (fun q => by have := lR_hHo c h2; omega)
          refine sg [(10, .slice A27 (i + 1) cp28)] (by kernel_rfl) ?_
          refine op_nil ?_
          refine W_region (by kernel_rfl) ?_
          refine sg [(18, .int .i64 ((i : Nat) : Int)), (19, .int .i64 (IntKind.i64.wrap (((i : Nat) : Int) + 1)))] (by kernel_rfl) ?_
          rw [show IntKind.i64.wrap (((i : Nat) : Int) + 1) = ((i : Nat) : Int) + 1 from wrap_i64 (by omega) (by omega)]
          refine fixR (y := ((i + 1 : Nat) : Int)) (by omega) ?_
          refine sg [(12, .int .i64 ((i + 1 : Nat) : Int))] (by kernel_rfl) ?_
          refine op_nil ?_
          refine ⟨_, ?_, F1, (n1 + 1), (fun v => I1 v ∨ v = n1), A27, cp28, A16, cp17, row ++ [2 * n1], hold ++ [GateP.nt (2 * n1)], q + 1, i + 1, _, updL_self (by kernel_rfl), ?_, hri.input (by omega) ((bit_div ins i).1 (by omega)) (.inr ⟨rfl, by assumption⟩), by omega, by omega, nF_hRo, nB_hRo, nF_hHo, nB_hHo, dj_hRo_hHo, hG, hMv, hRo, hHo, rfl⟩
          · omega
          · omega
        · replace hc10 : x.testBit i = true := ((not_f hc10))
          refine W_skip ?_
          refine W_fg [(0, .pointer (some ⟨p, 0, none⟩)), (1, .int .i64 ((wd : Nat) : Int)), (2, .int .u64 ((x : Nat) : Int)), (3, .int .u64 ((ins : Nat) : Int)), (8, .slice none 0 0), (9, .slice none 0 0), (10, .slice R i rc), (11, .slice H q hc), (12, .int .i64 ((i : Nat) : Int)), (13, .int .i64 ((2 * n1 : Nat) : Int)), (14, .int .i64 ((2 * n1 : Nat) : Int)), (17, .bool (decide (((i : Nat) : Int) < ((wd : Nat) : Int)))), (27, .bool ((((ins / pw i : Nat) : Int) % 2) == 1)), (34, .bool (!(x.testBit i)))] (by kernel_rfl) fun ρ => ?_
          refine W_region (by kernel_rfl) ?_
          refine sg [(37, .slice H q hc), (38, .int .i64 ((2 * n1 : Nat) : Int))] (by kernel_rfl) ?_
          have hlt_ := hG.1.lt
          have hz37 := hMv.1.size
          refine st (by rfl) (S_new (v := .slice (some ⟨w8.heap.size, 0, none⟩) 1 1) (ob := .cells #[.int .i64 ((2 * n1 : Nat) : Int)] 3) (by kernel_rfl) fun w33 hT34 hs35 hB36 => ?_)
          replace hB36 : Blk w33 (w8.heap.size) 3 [.int .i64 ((2 * n1 : Nat) : Int)] := hB36
          have hG := hG.tch0 hT34
          have hMv := hMv.then0 hT34
          have hRo := hRo.tch0 hT34
          have hHo := hHo.tch0 hT34
          have nF_hB36 : ¬ F1 (w8.heap.size) := fun e => by have := hlt_ _ e; omega
          have hz_ := hMv.1.size
          have hGl_ := hG.1.lt
          have lR_hRo := hRo.lt
          have lR_hHo := hHo.lt
          refine st (by rfl) (S_appendR 27 3 (.int .i64 0) 1 8 (n := q) (m := 1) (A := H) (cp := hc) (cells := nats hold) (news := [.int .i64 ((2 * n1 : Nat) : Int)]) (b := w8.heap.size) (off := 0) (c := 1) (by kernel_rfl) (by kernel_rfl) (by decide) (by kernel_rfl) (by kernel_rfl) (by kernel_rfl) hHo (by rfl) (fun k u hk => by rw [Nat.zero_add, hB36.cell]; exact hk) (by simp [oneV]) (by simp only [maxLen]; omega) (by omega) fun A38 cp39 w40 hO41 hw42 hT43 => ?_)
          have hG := hG.tchS hT43 (fun c e => nF_hHo c e)
          have hMv := hMv.newS hT43 nB_hHo
          have hRo := hRo.tch hT43 (fun c hc e => dj_hRo_hHo c hc e)
          have hHo : Own w40 0 3 1 (.slice A38 (q + 1) cp39) (q + 1) (nats (hold ++ [2 * n1])) := by rw [nats_append]; exact hO41
          have nF_hHo : ∀ c, (Value.slice A38 (q + 1) cp39).ownBlock = some c → ¬ F1 c := fun c hc => (hw42 c hc).elim (nF_hHo c) (fun q e => by have := hGl_ _ e; omega)
          have nB_hHo : ∀ c, (Value.slice A38 (q + 1) cp39).ownBlock = some c → w.heap.size ≤ c := fun c hc => (hw42 c hc).elim (nB_hHo c) (fun q => by omega)
          have dj_hRo_hHo : ∀ c, (Value.slice R (i) rc).ownBlock = some c → (Value.slice A38 (q + 1) cp39).ownBlock = some c → False := fun c h1 h2 => (hw42 c h2).elim (fun q => dj_hRo_hHo c h1 q) (fun q => by have := lR_hRo c h1; omega)
          refine sg [(11, .slice A38 (q + 1) cp39)] (by kernel_rfl) ?_
          refine op_nil ?_
          refine W_region (by kernel_rfl) ?_
          refine sg [(47, .slice R i rc), (48, .int .i64 ((2 * n1 : Nat) : Int))] (by kernel_rfl) ?_
          have hlt_ := hG.1.lt
          have hz48 := hMv.1.size
          refine st (by rfl) (S_new (v := .slice (some ⟨w40.heap.size, 0, none⟩) 1 1) (ob := .cells #[.int .i64 ((2 * n1 : Nat) : Int)] 3) (by kernel_rfl) fun w44 hT45 hs46 hB47 => ?_)
          replace hB47 : Blk w44 (w40.heap.size) 3 [.int .i64 ((2 * n1 : Nat) : Int)] := hB47
          have hG := hG.tch0 hT45
          have hMv := hMv.then0 hT45
          have hRo := hRo.tch0 hT45
          have hHo := hHo.tch0 hT45
          have nF_hB47 : ¬ F1 (w40.heap.size) := fun e => by have := hlt_ _ e; omega
          have hz_ := hMv.1.size
          have hGl_ := hG.1.lt
          have lR_hRo := hRo.lt
          have lR_hHo := hHo.lt
          refine st (by rfl) (S_appendR 27 3 (.int .i64 0) 1 8 (n := i) (m := 1) (A := R) (cp := rc) (cells := nats row) (news := [.int .i64 ((2 * n1 : Nat) : Int)]) (b := w40.heap.size) (off := 0) (c := 1) (by kernel_rfl) (by kernel_rfl) (by decide) (by kernel_rfl) (by kernel_rfl) (by kernel_rfl) hRo (by rfl) (fun k u hk => by rw [Nat.zero_add, hB47.cell]; exact hk) (by simp [oneV]) (by simp only [maxLen]; omega) (by omega) fun A49 cp50 w51 hO52 hw53 hT54 => ?_)
          have hG := hG.tchS hT54 (fun c e => nF_hRo c e)
          have hMv := hMv.newS hT54 nB_hRo
          have hHo := hHo.tch hT54 (fun c hc e => dj_hRo_hHo c e hc)
          have hRo : Own w51 0 3 1 (.slice A49 (i + 1) cp50) (i + 1) (nats (row ++ [2 * n1])) := by rw [nats_append]; exact hO52
          have nF_hRo : ∀ c, (Value.slice A49 (i + 1) cp50).ownBlock = some c → ¬ F1 c := fun c hc => (hw53 c hc).elim (nF_hRo c) (fun q e => by have := hGl_ _ e; omega)
          have nB_hRo : ∀ c, (Value.slice A49 (i + 1) cp50).ownBlock = some c → w.heap.size ≤ c := fun c hc => (hw53 c hc).elim (nB_hRo c) (fun q => by omega)
          have dj_hRo_hHo : ∀ c, (Value.slice A49 (i + 1) cp50).ownBlock = some c → (Value.slice A38 (q + 1) cp39).ownBlock = some c → False := fun c h1 h2 => (hw53 c h1).elim (fun q => dj_hRo_hHo c q h2) (fun q => by have := lR_hHo c h2; omega)
          refine sg [(10, .slice A49 (i + 1) cp50)] (by kernel_rfl) ?_
          refine op_nil ?_
          refine W_fg [(0, .pointer (some ⟨p, 0, none⟩)), (1, .int .i64 ((wd : Nat) : Int)), (2, .int .u64 ((x : Nat) : Int)), (3, .int .u64 ((ins : Nat) : Int)), (8, .slice none 0 0), (9, .slice none 0 0), (10, .slice A49 (i + 1) cp50), (11, .slice A38 (q + 1) cp39), (12, .int .i64 ((i : Nat) : Int)), (13, .int .i64 ((2 * n1 : Nat) : Int)), (14, .int .i64 ((2 * n1 : Nat) : Int)), (17, .bool (decide (((i : Nat) : Int) < ((wd : Nat) : Int)))), (27, .bool ((((ins / pw i : Nat) : Int) % 2) == 1)), (34, .bool (!(x.testBit i)))] (by kernel_rfl) fun ρ => ?_
          refine W_region (by kernel_rfl) ?_
          refine sg [(18, .int .i64 ((i : Nat) : Int)), (19, .int .i64 (IntKind.i64.wrap (((i : Nat) : Int) + 1)))] (by kernel_rfl) ?_
          rw [show IntKind.i64.wrap (((i : Nat) : Int) + 1) = ((i : Nat) : Int) + 1 from wrap_i64 (by omega) (by omega)]
          refine fixR (y := ((i + 1 : Nat) : Int)) (by omega) ?_
          refine sg [(12, .int .i64 ((i + 1 : Nat) : Int))] (by kernel_rfl) ?_
          refine op_nil ?_
          refine ⟨_, ?_, F1, (n1 + 1), (fun v => I1 v ∨ v = n1), A49, cp50, A38, cp39, row ++ [2 * n1], hold ++ [2 * n1], q + 1, i + 1, _, updL_self (by kernel_rfl), ?_, hri.input (by omega) ((bit_div ins i).1 (by omega)) (.inl ⟨rfl, by assumption⟩), by omega, by omega, nF_hRo, nB_hRo, nF_hHo, nB_hHo, dj_hRo_hHo, hG, hMv, hRo, hHo, rfl⟩
          · omega
          · omega
      · replace hc5 : ((ins / pw i : Nat) : Int) % 2 ≠ 1 := (ne_of_beq_false hc5)
        refine W_seq ?_
        refine W_fg [(0, .pointer (some ⟨p, 0, none⟩)), (1, .int .i64 ((wd : Nat) : Int)), (2, .int .u64 ((x : Nat) : Int)), (3, .int .u64 ((ins : Nat) : Int)), (8, .slice none 0 0), (9, .slice none 0 0), (10, .slice R i rc), (11, .slice H q hc), (12, .int .i64 ((i : Nat) : Int)), (13, .int .i64 0), (17, .bool (decide (((i : Nat) : Int) < ((wd : Nat) : Int)))), (27, .bool ((((ins / pw i : Nat) : Int) % 2) == 1))] (by kernel_rfl) fun ρ => ?_
        refine W_region (by kernel_rfl) ?_
        refine sg [(41, .int .u64 ((x : Nat) : Int)), (42, .int .i64 ((i : Nat) : Int))] (by kernel_rfl) ?_
        refine st (by rfl) (S_call (args := [.int .u64 ((x : Nat) : Int), .int .i64 ((i : Nat) : Int)]) (by kernel_rfl) (rbit_ok x i _ (by omega)) ?_)
        rintro _ w55 ⟨rfl, hT56⟩
        have hG := hG.tch0 hT56
        have hMv := hMv.then0 hT56
        have hRo := hRo.tch0 hT56
        have hHo := hHo.tch0 hT56
        refine sg [(44, .bool (!(x.testBit i)))] (by kernel_rfl) ?_
        refine op_nil ?_
        refine W_cond (!(x.testBit i)) (by kernel_rfl) (by kernel_rfl) (fun hc57 => ?_) (fun hc57 => ?_)
        · replace hc57 : x.testBit i = false := ((not_t hc57))
          refine W_region (by kernel_rfl) ?_
          refine sg [(45, .int .i64 0)] (by kernel_rfl) ?_
          refine sg [(46, .int .i64 (IntKind.i64.wrap (BitVec.ofInt 64 0 ^^^ BitVec.ofInt 64 1).toNat))] (by kernel_rfl) ?_
          rw [show IntKind.i64.wrap (BitVec.ofInt 64 0 ^^^ BitVec.ofInt 64 1).toNat = 1 from by decide]
          refine sg [(13, .int .i64 1)] (by kernel_rfl) ?_
          refine op_nil ?_
          refine W_region (by kernel_rfl) ?_
          refine sg [(47, .slice R i rc), (48, .int .i64 1)] (by kernel_rfl) ?_
          have hlt_ := hG.1.lt
          have hz62 := hMv.1.size
          refine st (by rfl) (S_new (v := .slice (some ⟨w55.heap.size, 0, none⟩) 1 1) (ob := .cells #[.int .i64 1] 3) (by kernel_rfl) fun w58 hT59 hs60 hB61 => ?_)
          replace hB61 : Blk w58 (w55.heap.size) 3 [.int .i64 1] := hB61
          have hG := hG.tch0 hT59
          have hMv := hMv.then0 hT59
          have hRo := hRo.tch0 hT59
          have hHo := hHo.tch0 hT59
          have nF_hB61 : ¬ F1 (w55.heap.size) := fun e => by have := hlt_ _ e; omega
          have hz_ := hMv.1.size
          have hGl_ := hG.1.lt
          have lR_hRo := hRo.lt
          have lR_hHo := hHo.lt
          refine st (by rfl) (S_appendR 27 3 (.int .i64 0) 1 8 (n := i) (m := 1) (A := R) (cp := rc) (cells := nats row) (news := [.int .i64 1]) (b := w55.heap.size) (off := 0) (c := 1) (by kernel_rfl) (by kernel_rfl) (by decide) (by kernel_rfl) (by kernel_rfl) (by kernel_rfl) hRo (by rfl) (fun k u hk => by rw [Nat.zero_add, hB61.cell]; exact hk) (by simp [oneV]) (by simp only [maxLen]; omega) (by omega) fun A63 cp64 w65 hO66 hw67 hT68 => ?_)
          have hG := hG.tchS hT68 (fun c e => nF_hRo c e)
          have hMv := hMv.newS hT68 nB_hRo
          have hHo := hHo.tch hT68 (fun c hc e => dj_hRo_hHo c e hc)
          have hRo : Own w65 0 3 1 (.slice A63 (i + 1) cp64) (i + 1) (nats (row ++ [1])) := by rw [nats_append]; exact hO66
          have nF_hRo : ∀ c, (Value.slice A63 (i + 1) cp64).ownBlock = some c → ¬ F1 c := fun c hc => (hw67 c hc).elim (nF_hRo c) (fun q e => by have := hGl_ _ e; omega)
          have nB_hRo : ∀ c, (Value.slice A63 (i + 1) cp64).ownBlock = some c → w.heap.size ≤ c := fun c hc => (hw67 c hc).elim (nB_hRo c) (fun q => by omega)
          have dj_hRo_hHo : ∀ c, (Value.slice A63 (i + 1) cp64).ownBlock = some c → (Value.slice H (q) hc).ownBlock = some c → False := fun c h1 h2 => (hw67 c h1).elim (fun q => dj_hRo_hHo c q h2) (fun q => by have := lR_hHo c h2; omega)
          refine sg [(10, .slice A63 (i + 1) cp64)] (by kernel_rfl) ?_
          refine op_nil ?_
          refine W_fg [(0, .pointer (some ⟨p, 0, none⟩)), (1, .int .i64 ((wd : Nat) : Int)), (2, .int .u64 ((x : Nat) : Int)), (3, .int .u64 ((ins : Nat) : Int)), (8, .slice none 0 0), (9, .slice none 0 0), (10, .slice A63 (i + 1) cp64), (11, .slice H q hc), (12, .int .i64 ((i : Nat) : Int)), (13, .int .i64 1), (17, .bool (decide (((i : Nat) : Int) < ((wd : Nat) : Int)))), (27, .bool ((((ins / pw i : Nat) : Int) % 2) == 1)), (44, .bool (!(x.testBit i)))] (by kernel_rfl) fun ρ => ?_
          refine W_region (by kernel_rfl) ?_
          refine sg [(18, .int .i64 ((i : Nat) : Int)), (19, .int .i64 (IntKind.i64.wrap (((i : Nat) : Int) + 1)))] (by kernel_rfl) ?_
          rw [show IntKind.i64.wrap (((i : Nat) : Int) + 1) = ((i : Nat) : Int) + 1 from wrap_i64 (by omega) (by omega)]
          refine fixR (y := ((i + 1 : Nat) : Int)) (by omega) ?_
          refine sg [(12, .int .i64 ((i + 1 : Nat) : Int))] (by kernel_rfl) ?_
          refine op_nil ?_
          refine ⟨_, ?_, F1, n1, I1, A63, cp64, H, hc, row ++ [1], hold, q, i + 1, _, updL_self (by kernel_rfl), ?_, hri.const (by show (1 : Nat) / 2 < _; omega) (fun be hm => by rw [show x.testBit i = false by assumption]; exact hG.2.t1 hm), by omega, by omega, nF_hRo, nB_hRo, nF_hHo, nB_hHo, dj_hRo_hHo, hG, hMv, hRo, hHo, rfl⟩
          · omega
          · omega
        · replace hc57 : x.testBit i = true := ((not_f hc57))
          refine W_skip ?_
          refine W_region (by kernel_rfl) ?_
          refine sg [(47, .slice R i rc), (48, .int .i64 0)] (by kernel_rfl) ?_
          have hlt_ := hG.1.lt
          have hz73 := hMv.1.size
          refine st (by rfl) (S_new (v := .slice (some ⟨w55.heap.size, 0, none⟩) 1 1) (ob := .cells #[.int .i64 0] 3) (by kernel_rfl) fun w69 hT70 hs71 hB72 => ?_)
          replace hB72 : Blk w69 (w55.heap.size) 3 [.int .i64 0] := hB72
          have hG := hG.tch0 hT70
          have hMv := hMv.then0 hT70
          have hRo := hRo.tch0 hT70
          have hHo := hHo.tch0 hT70
          have nF_hB72 : ¬ F1 (w55.heap.size) := fun e => by have := hlt_ _ e; omega
          have hz_ := hMv.1.size
          have hGl_ := hG.1.lt
          have lR_hRo := hRo.lt
          have lR_hHo := hHo.lt
          refine st (by rfl) (S_appendR 27 3 (.int .i64 0) 1 8 (n := i) (m := 1) (A := R) (cp := rc) (cells := nats row) (news := [.int .i64 0]) (b := w55.heap.size) (off := 0) (c := 1) (by kernel_rfl) (by kernel_rfl) (by decide) (by kernel_rfl) (by kernel_rfl) (by kernel_rfl) hRo (by rfl) (fun k u hk => by rw [Nat.zero_add, hB72.cell]; exact hk) (by simp [oneV]) (by simp only [maxLen]; omega) (by omega) fun A74 cp75 w76 hO77 hw78 hT79 => ?_)
          have hG := hG.tchS hT79 (fun c e => nF_hRo c e)
          have hMv := hMv.newS hT79 nB_hRo
          have hHo := hHo.tch hT79 (fun c hc e => dj_hRo_hHo c e hc)
          have hRo : Own w76 0 3 1 (.slice A74 (i + 1) cp75) (i + 1) (nats (row ++ [0])) := by rw [nats_append]; exact hO77
          have nF_hRo : ∀ c, (Value.slice A74 (i + 1) cp75).ownBlock = some c → ¬ F1 c := fun c hc => (hw78 c hc).elim (nF_hRo c) (fun q e => by have := hGl_ _ e; omega)
          have nB_hRo : ∀ c, (Value.slice A74 (i + 1) cp75).ownBlock = some c → w.heap.size ≤ c := fun c hc => (hw78 c hc).elim (nB_hRo c) (fun q => by omega)
          have dj_hRo_hHo : ∀ c, (Value.slice A74 (i + 1) cp75).ownBlock = some c → (Value.slice H (q) hc).ownBlock = some c → False := fun c h1 h2 => (hw78 c h1).elim (fun q => dj_hRo_hHo c q h2) (fun q => by have := lR_hHo c h2; omega)
          refine sg [(10, .slice A74 (i + 1) cp75)] (by kernel_rfl) ?_
          refine op_nil ?_
          refine W_fg [(0, .pointer (some ⟨p, 0, none⟩)), (1, .int .i64 ((wd : Nat) : Int)), (2, .int .u64 ((x : Nat) : Int)), (3, .int .u64 ((ins : Nat) : Int)), (8, .slice none 0 0), (9, .slice none 0 0), (10, .slice A74 (i + 1) cp75), (11, .slice H q hc), (12, .int .i64 ((i : Nat) : Int)), (13, .int .i64 0), (17, .bool (decide (((i : Nat) : Int) < ((wd : Nat) : Int)))), (27, .bool ((((ins / pw i : Nat) : Int) % 2) == 1)), (44, .bool (!(x.testBit i)))] (by kernel_rfl) fun ρ => ?_
          refine W_region (by kernel_rfl) ?_
          refine sg [(18, .int .i64 ((i : Nat) : Int)), (19, .int .i64 (IntKind.i64.wrap (((i : Nat) : Int) + 1)))] (by kernel_rfl) ?_
          rw [show IntKind.i64.wrap (((i : Nat) : Int) + 1) = ((i : Nat) : Int) + 1 from wrap_i64 (by omega) (by omega)]
          refine fixR (y := ((i + 1 : Nat) : Int)) (by omega) ?_
          refine sg [(12, .int .i64 ((i + 1 : Nat) : Int))] (by kernel_rfl) ?_
          refine op_nil ?_
          refine ⟨_, ?_, F1, n1, I1, A74, cp75, H, hc, row ++ [0], hold, q, i + 1, _, updL_self (by kernel_rfl), ?_, hri.const (by show (0 : Nat) / 2 < _; omega) (fun be hm => by rw [show x.testBit i = true by assumption]; exact hG.2.t0 hm), by omega, by omega, nF_hRo, nB_hRo, nF_hHo, nB_hHo, dj_hRo_hHo, hG, hMv, hRo, hHo, rfl⟩
          · omega
          · omega
    · replace hc2 : ((wd : Nat) : Int) ≤ ((i : Nat) : Int) := (Int.not_lt.1 (of_decide_eq_false hc2))
      refine W_exit ?_
      refine X_hit ?_
      refine W_seq ?_
      refine W_region (by kernel_rfl) ?_
      refine sg [(51, .slice R i rc), (52, .slice H q hc), (8, .slice R i rc), (9, .slice H q hc)] (by kernel_rfl) ?_
      refine op_nil ?_
      refine W_ret ?_
      refine ⟨_, Res_of (v := .tuple #[.slice R i rc, .slice H q hc]) (by kernel_rfl), ?_⟩
      have hie : i = wd := by omega
      have hql : q = hold.length := by have := hHo.rd1.1; rw [nats_length] at this; omega
      subst hie; subst hql
      exact ⟨F1, n1, I1, R, rc, H, hc, row, hold, rfl, hRo.rdx nF_hRo, hHo.rdx nF_hHo, (fun c h => by rw [own_blk R i rc] at h; exact nB_hRo c h), (fun c h => by rw [own_blk H hold.length hc] at h; exact nB_hHo c h), hG, hMv, hri, by omega, hHo.adok, by omega⟩

end Go.Proofs.YtnlecdpiccgdpaaV
