/- Texts laid together: Walks of functions of the program and of the document's texts. The conditions stand with each theorem. Slices of slices; a row behind a row. Laws of rows: plain. Products and quotients of rows: plain. Walks of functions of the program and of the document's texts. The conditions stand with each theorem. -/
import Derived.Test.YtnlecdpiccgdpaaJMmult60x2
import Derived.Test.YtnlecdpiccgdpaaProg
import Derived.Test.YtnlecdpiccgdpaaJMmult60x1
import Derived.Test.YtnlecdpiccgdpaaJMmult60x8
import Derived.Laws.Slices
import Derived.ArgAppend
set_option linter.unusedVariables false
set_option linter.unusedSimpArgs false
namespace Go.Proofs.YtnlecdpiccgdpaaV
open Go Go.RowKit Go.Proofs

/-- What comes of Row. -/
def RowO (F : Nat → Prop) (p n wd : Nat) (cs : List (List Nat)) (I : Nat → Prop) (x ins : Nat) (w : World) (v : Value) (w' : World) : Prop :=
  ∃ F' n' I' R rc H hc row hold, v = .tuple #[.slice R wd rc, .slice H hold.length hc] ∧ RdX F' w' wd R (nats row) ∧ RdX F' w' hold.length H (nats hold) ∧ (∀ c, blkOf R = some c → w.heap.size ≤ c) ∧ (∀ c, blkOf H = some c → w.heap.size ≤ c) ∧ GObj F' w' p n' cs I' ∧ Mv F F' w w' ∧ RowI n cs I n' I' wd row hold x ins ∧ n' ≤ n + 64 ∧ AdOk H ∧ hold.length ≤ 64

set_option maxRecDepth 100000 in
theorem row_ok (F : Nat → Prop) (p n wd : Nat) (cs : List (List Nat)) (I : Nat → Prop) (x ins : Nat) (w : World) (hG : GObj F w p n cs I) (h1 : 1 ≤ wd) (h2 : wd ≤ 64) (hn : n ≤ 60000000000) : Ret Try.prog 30 [.pointer (some ⟨p, 0, none⟩), .int .i64 ((wd : Nat) : Int), .int .u64 ((x : Nat) : Int), .int .u64 ((ins : Nat) : Int)] w fun v w' => RowO F p n wd cs I x ins w v w' := by
  have hMv := Mv.refl F w
  have hpos := hG.2.pos
  refine enter Try.func30 rfl rfl ?_
  refine W_seq ?_
  refine W_region (by kernel_rfl) ?_
  refine sg [(8, .slice none 0 0), (9, .slice none 0 0)] (by kernel_rfl) ?_
  refine op_nil ?_
  refine W_seq ?_
  refine W_region (by kernel_rfl) ?_
  refine sg [(10, .slice none 0 0), (11, .slice none 0 0)] (by kernel_rfl) ?_
  refine op_nil ?_
  refine W_seq ?_
  refine W_seq ?_
  refine W_region (by kernel_rfl) ?_
  refine sg [(12, .int .i64 0)] (by kernel_rfl) ?_
  refine op_nil ?_
  refine W_block ?_
  refine W_loop (fun m ρ w' => ∃ (F1 : Nat → Prop) (n1 : Nat) (I1 : Nat → Prop) (R : Option Addr) (rc : Nat) (H : Option Addr) (hc : Nat) (row hold : List Nat) (q i : Nat) (ρ0 : Env), ρ = updL ρ0 [(0, .pointer (some ⟨p, 0, none⟩)), (1, .int .i64 ((wd : Nat) : Int)), (2, .int .u64 ((x : Nat) : Int)), (3, .int .u64 ((ins : Nat) : Int)), (8, .slice none 0 0), (9, .slice none 0 0), (10, .slice R i rc), (11, .slice H q hc), (12, .int .i64 ((i : Nat) : Int))] ∧ (i ≤ wd) ∧ (RowI n cs I n1 I1 i row hold x ins) ∧ (q ≤ i) ∧ (n1 ≤ n + i) ∧ (∀ c, (Value.slice R i rc).ownBlock = some c → ¬ F1 c) ∧ (∀ c, (Value.slice R i rc).ownBlock = some c → w.heap.size ≤ c) ∧ (∀ c, (Value.slice H q hc).ownBlock = some c → ¬ F1 c) ∧ (∀ c, (Value.slice H q hc).ownBlock = some c → w.heap.size ≤ c) ∧ (∀ c, (Value.slice R i rc).ownBlock = some c → (Value.slice H q hc).ownBlock = some c → False) ∧ GObj F1 w' p n1 cs I1 ∧ Mv F F1 w w' ∧ Own w' 0 3 1 (.slice R i rc) i (nats row) ∧ Own w' 0 3 1 (.slice H q hc) q (nats hold) ∧ m = wd - i) (m := wd - 0) ?_ ?_
  · refine ⟨F, n, I, none, 0, none, 0, [], [], 0, 0, _, updL_self (by kernel_rfl), by omega, RowI.zero _ _ _ _ _, by omega, by omega, (fun c h => by cases h), (fun c h => by cases h), (fun c h => by cases h), (fun c h => by cases h), (fun c h _ => by cases h), hG, hMv, Own.nil_ _ _ _ _, Own.nil_ _ _ _ _, rfl⟩
  · rintro m ρ w1 ⟨F1, n1, I1, R, rc, H, hc, row, hold, q, i, ρ, rfl, hi, hri, hq, hd, nF_hRo, nB_hRo, nF_hHo, nB_hHo, dj_hRo_hHo, hG, hMv, hRo, hHo, rfl⟩
    have hpos := hG.2.pos
    have hle_ := hri.le
    refine W_seq ?_
    refine W_seq ?_
    refine W_region (by kernel_rfl) ?_
    refine sg [(15, .int .i64 ((i : Nat) : Int)), (16, .int .i64 ((wd : Nat) : Int)), (17, .bool (decide (((i : Nat) : Int) < ((wd : Nat) : Int))))] (by kernel_rfl) ?_
    refine op_nil ?_
    refine W_cond (decide (((i : Nat) : Int) < ((wd : Nat) : Int))) (by kernel_rfl) (by kernel_rfl) (fun hc2 => ?_) (fun hc2 => ?_)
    · replace hc2 : ((i : Nat) : Int) < ((wd : Nat) : Int) := (of_decide_eq_true hc2)
      refine W_skip ?_
      refine W_seq ?_
      refine W_block ?_
      refine W_seq ?_
      refine W_region (by kernel_rfl) ?_
      refine sg [(20, .pointer (some ⟨p, 0, none⟩))] (by kernel_rfl) ?_
      refine st (by rfl) (S_call (args := [.pointer (some ⟨p, 0, none⟩)]) (by kernel_rfl) (true_ok p _) ?_)
      rintro _ w3 ⟨rfl, hT4⟩
      have hG := hG.tch0 hT4
      have hMv := hMv.then0 hT4
      have hRo := hRo.tch0 hT4
      have hHo := hHo.tch0 hT4
      refine sg [(13, .int .i64 0)] (by kernel_rfl) ?_
      refine op_nil ?_
      refine W_seq ?_
      refine W_seq ?_
      refine W_region (by kernel_rfl) ?_
      refine sg [(22, .int .u64 ((ins : Nat) : Int)), (23, .int .i64 ((i : Nat) : Int)), (24, .int .u64 (IntKind.u64.wrap ((i : Nat) : Int)))] (by kernel_rfl) ?_
      rw [show IntKind.u64.wrap ((i : Nat) : Int) = ((i : Nat) : Int) from wrap_u64 (by omega) (by omega)]
      refine stv (v := .int .u64 ((ins / pw i : Nat) : Int)) (by kernel_rfl) (R_shrP (k2 := .u64) ins i (by kernel_rfl) (by kernel_rfl) (by omega)) ?_
      refine sg [(26, .int .u64 (((ins / pw i : Nat) : Int).tmod 2))] (by kernel_rfl) ?_
      rw [show ((ins / pw i : Nat) : Int).tmod 2 = ((ins / pw i : Nat) : Int) % 2 from Int.tmod_eq_emod_of_nonneg (by first | omega | exact Int.natCast_nonneg _)]
      refine sg [(27, .bool ((((ins / pw i : Nat) : Int) % 2) == 1))] (by kernel_rfl) ?_
      refine op_nil ?_
      refine W_cond ((((ins / pw i : Nat) : Int) % 2) == 1) (by kernel_rfl) (by kernel_rfl) (fun hc5 => ?_) (fun hc5 => ?_)
      · replace hc5 : ((ins / pw i : Nat) : Int) % 2 = 1 := (eq_of_beq hc5)
        refine W_seq ?_
        refine W_fg [(0, .pointer (some ⟨p, 0, none⟩)), (1, .int .i64 ((wd : Nat) : Int)), (2, .int .u64 ((x : Nat) : Int)), (3, .int .u64 ((ins : Nat) : Int)), (8, .slice none 0 0), (9, .slice none 0 0), (10, .slice R i rc), (11, .slice H q hc), (12, .int .i64 ((i : Nat) : Int)), (13, .int .i64 0), (17, .bool (decide (((i : Nat) : Int) < ((wd : Nat) : Int)))), (27, .bool ((((ins / pw i : Nat) : Int) % 2) == 1))] (by kernel_rfl) fun ρ => ?_
        refine W_region (by kernel_rfl) ?_
        refine sg [(28, .pointer (some ⟨p, 0, none⟩))] (by kernel_rfl) ?_
        have lR_hRo := hRo.lt
        have lR_hHo := hHo.lt
        refine st (by rfl) (S_call (args := [.pointer (some ⟨p, 0, none⟩)]) (by kernel_rfl) (input_ok F1 p n1 cs I1 _ hG (by omega)) ?_)
        rintro _ w6 ⟨rfl, hG, hm7⟩
        have hMv := hMv.trans hm7
        have hRo := hRo.tch hm7.1 nF_hRo
        have hHo := hHo.tch hm7.1 nF_hHo
        replace hG : GObj F1 w6 p (n1 + 1) cs (fun v => I1 v ∨ v = n1) := hG
        refine sg [(13, .int .i64 ((2 * n1 : Nat) : Int))] (by kernel_rfl) ?_
        refine op_nil ?_
        refine W_seq ?_
        refine W_region (by kernel_rfl) ?_
        refine sg [(30, .int .i64 ((2 * n1 : Nat) : Int)), (14, .int .i64 ((2 * n1 : Nat) : Int))] (by kernel_rfl) ?_
        refine op_nil ?_
        refine W_seq ?_
        refine W_seq ?_
        refine W_region (by kernel_rfl) ?_
        refine sg [(31, .int .u64 ((x : Nat) : Int)), (32, .int .i64 ((i : Nat) : Int))] (by kernel_rfl) ?_
        refine st (by rfl) (S_call (args := [.int .u64 ((x : Nat) : Int), .int .i64 ((i : Nat) : Int)]) (by kernel_rfl) (rbit_ok x i _ (by omega)) ?_)
        rintro _ w8 ⟨rfl, hT9⟩
        have hG := hG.tch0 hT9
        have hMv := hMv.then0 hT9
        have hRo := hRo.tch0 hT9
        have hHo := hHo.tch0 hT9
        refine sg [(34, .bool (!(x.testBit i)))] (by kernel_rfl) ?_
        refine op_nil ?_
        refine W_cond (!(x.testBit i)) (by kernel_rfl) (by kernel_rfl) (fun hc10 => ?_) (fun hc10 => ?_)
        · replace hc10 : x.testBit i = false := ((not_t hc10))
          refine W_fg [(0, .pointer (some ⟨p, 0, none⟩)), (1, .int .i64 ((wd : Nat) : Int)), (2, .int .u64 ((x : Nat) : Int)), (3, .int .u64 ((ins : Nat) : Int)), (8, .slice none 0 0), (9, .slice none 0 0), (10, .slice R i rc), (11, .slice H q hc), (12, .int .i64 ((i : Nat) : Int)), (13, .int .i64 ((2 * n1 : Nat) : Int)), (14, .int .i64 ((2 * n1 : Nat) : Int)), (17, .bool (decide (((i : Nat) : Int) < ((wd : Nat) : Int)))), (27, .bool ((((ins / pw i : Nat) : Int) % 2) == 1)), (34, .bool (!(x.testBit i)))] (by kernel_rfl) fun ρ => ?_
          refine W_region (by kernel_rfl) ?_
          refine sg [(35, .int .i64 ((2 * n1 : Nat) : Int))] (by kernel_rfl) ?_
          refine sg [(36, .int .i64 (IntKind.i64.wrap (BitVec.ofInt 64 ((2 * n1 : Nat) : Int) ^^^ BitVec.ofInt 64 1).toNat))] (by kernel_rfl) ?_
          rw [GateP.not_i64 (2 * n1) (by omega)]
          refine sg [(14, .int .i64 ((GateP.nt (2 * n1) : Nat) : Int))] (by kernel_rfl) ?_
          refine op_nil ?_
          refine W_region (by kernel_rfl) ?_
          refine sg [(37, .slice H q hc), (38, .int .i64 ((GateP.nt (2 * n1) : Nat) : Int))] (by kernel_rfl) ?_
          have hlt_ := hG.1.lt
          have hz15 := hMv.1.size
          refine st (by rfl) (S_new (v := .slice (some ⟨w8.heap.size, 0, none⟩) 1 1) (ob := .cells #[.int .i64 ((GateP.nt (2 * n1) : Nat) : Int)] 3) (by kernel_rfl) fun w11 hT12 hs13 hB14 => ?_)
          replace hB14 : Blk w11 (w8.heap.size) 3 [.int .i64 ((GateP.nt (2 * n1) : Nat) : Int)] := hB14
          have hG := hG.tch0 hT12
          have hMv := hMv.then0 hT12
          have hRo := hRo.tch0 hT12
          have hHo := hHo.tch0 hT12
          have nF_hB14 : ¬ F1 (w8.heap.size) := fun e => by have := hlt_ _ e; omega
          have hz_ := hMv.1.size
          have hGl_ := hG.1.lt
          have lR_hRo := hRo.lt
          have lR_hHo := hHo.lt
          refine st (by rfl) (S_appendR 27 3 (.int .i64 0) 1 8 (n := q) (m := 1) (A := H) (cp := hc) (cells := nats hold) (news := [.int .i64 ((GateP.nt (2 * n1) : Nat) : Int)]) (b := w8.heap.size) (off := 0) (c := 1) (by kernel_rfl) (by kernel_rfl) (by decide) (by kernel_rfl) (by kernel_rfl) (by kernel_rfl) hHo (by rfl) (fun k u hk => by rw [Nat.zero_add, hB14.cell]; exact hk) (by simp [oneV]) (by simp only [maxLen]; omega) (by omega) fun A16 cp17 w18 hO19 hw20 hT21 => ?_)
          have hG := hG.tchS hT21 (fun c e => nF_hHo c e)
          have hMv := hMv.newS hT21 nB_hHo
          have hRo := hRo.tch hT21 (fun c hc e => dj_hRo_hHo c hc e)
          have hHo : Own w18 0 3 1 (.slice A16 (q + 1) cp17) (q + 1) (nats (hold ++ [GateP.nt (2 * n1)])) := by rw [nats_append]; exact hO19
          have nF_hHo : ∀ c, (Value.slice A16 (q + 1) cp17).ownBlock = some c → ¬ F1 c := fun c hc => (hw20 c hc).elim (nF_hHo c) (fun q e => by have := hGl_ _ e; omega)
          have nB_hHo : ∀ c, (Value.slice A16 (q + 1) cp17).ownBlock = some c → w.heap.size ≤ c := fun c hc => (hw20 c hc).elim (nB_hHo c) (fun q => by omega)
          have dj_hRo_hHo : ∀ c, (Value.slice R (i) rc).ownBlock = some c → (Value.slice A16 (q + 1) cp17).ownBlock = some c → False := fun c h1 h2 => (hw20 c h2).elim (fun q => dj_hRo_hHo c h1 q) (fun q => by have := lR_hRo c h1; omega)
          refine sg [(11, .slice A16 (q + 1) cp17)] (by kernel_rfl) ?_
          refine op_nil ?_
          refine W_fg [(0, .pointer (some ⟨p, 0, none⟩)), (1, .int .i64 ((wd : Nat) : Int)), (2, .int .u64 ((x : Nat) : Int)), (3, .int .u64 ((ins : Nat) : Int)), (8, .slice none 0 0), (9, .slice none 0 0), (10, .slice R i rc), (11, .slice A16 (q + 1) cp17), (12, .int .i64 ((i : Nat) : Int)), (13, .int .i64 ((2 * n1 : Nat) : Int)), (14, .int .i64 ((GateP.nt (2 * n1) : Nat) : Int)), (17, .bool (decide (((i : Nat) : Int) < ((wd : Nat) : Int)))), (27, .bool ((((ins / pw i : Nat) : Int) % 2) == 1)), (34, .bool (!(x.testBit i)))] (by kernel_rfl) fun ρ => ?_
          refine W_region (by kernel_rfl) ?_
          refine sg [(47, .slice R i rc), (48, .int .i64 ((2 * n1 : Nat) : Int))] (by kernel_rfl) ?_
          have hlt_ := hG.1.lt
          have hz26 := hMv.1.size
          refine st (by rfl) (S_new (v := .slice (some ⟨w18.heap.size, 0, none⟩) 1 1) (ob := .cells #[.int .i64 ((2 * n1 : Nat) : Int)] 3) (by kernel_rfl) fun w22 hT23 hs24 hB25 => ?_)
          replace hB25 : Blk w22 (w18.heap.size) 3 [.int .i64 ((2 * n1 : Nat) : Int)] := hB25
          have hG := hG.tch0 hT23
          have hMv := hMv.then0 hT23
          have hRo := hRo.tch0 hT23
          have hHo := hHo.tch0 hT23
          have nF_hB25 : ¬ F1 (w18.heap.size) := fun e => by have := hlt_ _ e; omega
          have hz_ := hMv.1.size
          have hGl_ := hG.1.lt
          have lR_hRo := hRo.lt
          have lR_hHo := hHo.lt
          refine st (by rfl) (S_appendR 27 3 (.int .i64 0) 1 8 (n := i) (m := 1) (A := R) (cp := rc) (cells := nats row) (news := [.int .i64 ((2 * n1 : Nat) : Int)]) (b := w18.heap.size) (off := 0) (c := 1) (by kernel_rfl) (by kernel_rfl) (by decide) (by kernel_rfl) (by kernel_rfl) (by kernel_rfl) hRo (by rfl) (fun k u hk => by rw [Nat.zero_add, hB25.cell]; exact hk) (by simp [oneV]) (by simp only [maxLen]; omega) (by omega) fun A27 cp28 w29 hO30 hw31 hT32 => ?_)
          have hG := hG.tchS hT32 (fun c e => nF_hRo c e)
          have hMv := hMv.newS hT32 nB_hRo
          have hHo := hHo.tch hT32 (fun c hc e => dj_hRo_hHo c e hc)
          have hRo : Own w29 0 3 1 (.slice A27 (i + 1) cp28) (i + 1) (nats (row ++ [2 * n1])) := by rw [nats_append]; exact hO30
          have nF_hRo : ∀ c, (Value.slice A27 (i + 1) cp28).ownBlock = some c → ¬ F1 c := fun c hc => (hw31 c hc).elim (nF_hRo c) (fun q e => by have := hGl_ _ e; omega)
          have nB_hRo : ∀ c, (Value.slice A27 (i + 1) cp28).ownBlock = some c → w.heap.size ≤ c := fun c hc => (hw31 c hc).elim (nB_hRo c) (fun q => by omega)
          have dj_hRo_hHo : ∀ c, (Value.slice A27 (i + 1) cp28).ownBlock = some c → (Value.slice A16 (q + 1) cp17).ownBlock = some c → False := fun c h1 h2 => (hw31 c h1).elim (fun q => dj_hRo_hHo c q h2) (fun q => by have := lR_hHo c h2; omega)
          refine sg [(10, .slice A27 (i + 1) cp28)] (by kernel_rfl) ?_
          refine op_nil ?_
          refine W_region (by kernel_rfl) ?_
          refine sg [(18, .int .i64 ((i : Nat) : Int)), (19, .int .i64 (IntKind.i64.wrap (((i : Nat) : Int) + 1)))] (by kernel_rfl) ?_
          rw [show IntKind.i64.wrap (((i : Nat) : Int) + 1) = ((i : Nat) : Int) + 1 from wrap_i64 (by omega) (by omega)]
          refine fixR (y := ((i + 1 : Nat) : Int)) (by omega) ?_
          refine sg [(12, .int .i64 ((i + 1 : Nat) : Int))] (by kernel_rfl) ?_
          refine op_nil ?_
          refine ⟨_, ?_, F1, (n1 + 1), (fun v => I1 v ∨ v = n1), A27, cp28, A16, cp17, row ++ [2 * n1], hold ++ [GateP.nt (2 * n1)], q + 1, i + 1, _, updL_self (by kernel_rfl), ?_, hri.input (by omega) ((bit_div ins i).1 (by omega)) (.inr ⟨rfl, by assumption⟩), by omega, by omega, nF_hRo, nB_hRo, nF_hHo, nB_hHo, dj_hRo_hHo, hG, hMv, hRo, hHo, rfl⟩
          · omega
          · omega
        · replace hc10 : x.testBit i = true := ((not_f hc10))
          refine W_skip ?_
          refine W_fg [(0, .pointer (some ⟨p, 0, none⟩)), (1, .int .i64 ((wd : Nat) : Int)), (2, .int .u64 ((x : Nat) : Int)), (3, .int .u64 ((ins : Nat) : Int)), (8, .slice none 0 0), (9, .slice none 0 0), (10, .slice R i rc), (11, .slice H q hc), (12, .int .i64 ((i : Nat) : Int)), (13, .int .i64 ((2 * n1 : Nat) : Int)), (14, .int .i64 ((2 * n1 : Nat) : Int)), (17, .bool (decide (((i : Nat) : Int) < ((wd : Nat) : Int)))), (27, .bool ((((ins / pw i : Nat) : Int) % 2) == 1)), (34, .bool (!(x.testBit i)))] (by kernel_rfl) fun ρ => ?_
          refine W_region (by kernel_rfl) ?_
          refine sg [(37, .slice H q hc), (38, .int .i64 ((2 * n1 : Nat) : Int))] (by kernel_rfl) ?_
          have hlt_ := hG.1.lt
          have hz37 := hMv.1.size
          refine st (by rfl) (S_new (v := .slice (some ⟨w8.heap.size, 0, none⟩) 1 1) (ob := .cells #[.int .i64 ((2 * n1 : Nat) : Int)] 3) (by kernel_rfl) fun w33 hT34 hs35 hB36 => ?_)
          replace hB36 : Blk w33 (w8.heap.size) 3 [.int .i64 ((2 * n1 : Nat) : Int)] := hB36
          have hG := hG.tch0 hT34
          have hMv := hMv.then0 hT34
          have hRo := hRo.tch0 hT34
          have hHo := hHo.tch0 hT34
          have nF_hB36 : ¬ F1 (w8.heap.size) := fun e => by have := hlt_ _ e; omega
          have hz_ := hMv.1.size
          have hGl_ := hG.1.lt
          have lR_hRo := hRo.lt
          have lR_hHo := hHo.lt
          refine st (by rfl) (S_appendR 27 3 (.int .i64 0) 1 8 (n := q) (m := 1) (A := H) (cp := hc) (cells := nats hold) (news := [.int .i64 ((2 * n1 : Nat) : Int)]) (b := w8.heap.size) (off := 0) (c := 1) (by kernel_rfl) (by kernel_rfl) (by decide) (by kernel_rfl) (by kernel_rfl) (by kernel_rfl) hHo (by rfl) (fun k u hk => by rw [Nat.zero_add, hB36.cell]; exact hk) (by simp [oneV]) (by simp only [maxLen]; omega) (by omega) fun A38 cp39 w40 hO41 hw42 hT43 => ?_)
          have hG := hG.tchS hT43 (fun c e => nF_hHo c e)
          have hMv := hMv.newS hT43 nB_hHo
          have hRo := hRo.tch hT43 (fun c hc e => dj_hRo_hHo c hc e)
          have hHo : Own w40 0 3 1 (.slice A38 (q + 1) cp39) (q + 1) (nats (hold ++ [2 * n1])) := by rw [nats_append]; exact hO41
          have nF_hHo : ∀ c, (Value.slice A38 (q + 1) cp39).ownBlock = some c → ¬ F1 c := fun c hc => (hw42 c hc).elim (nF_hHo c) (fun q e => by have := hGl_ _ e; omega)
          have nB_hHo : ∀ c, (Value.slice A38 (q + 1) cp39).ownBlock = some c → w.heap.size ≤ c := fun c hc => (hw42 c hc).elim (nB_hHo c) (fun q => by omega)
          have dj_hRo_hHo : ∀ c, (Value.slice R (i) rc).ownBlock = some c → (Value.slice A38 (q + 1) cp39).ownBlock = some c → False := fun c h1 h2 => (hw42 c h2).elim (fun q => dj_hRo_hHo c h1 q) (fun q => by have := lR_hRo c h1; omega)
          refine sg [(11, .slice A38 (q + 1) cp39)] (by kernel_rfl) ?_
          refine op_nil ?_
          refine W_region (by kernel_rfl) ?_
          refine sg [(47, .slice R i rc), (48, .int .i64 ((2 * n1 : Nat) : Int))] (by kernel_rfl) ?_
          have hlt_ := hG.1.lt
          have hz48 := hMv.1.size
          refine st (by rfl) (S_new (v := .slice (some ⟨w40.heap.size, 0, none⟩) 1 1) (ob := .cells #[.int .i64 ((2 * n1 : Nat) : Int)] 3) (by kernel_rfl) fun w44 hT45 hs46 hB47 => ?_)
          replace hB47 : Blk w44 (w40.heap.size) 3 [.int .i64 ((2 * n1 : Nat) : Int)] := hB47
          have hG := hG.tch0 hT45
          have hMv := hMv.then0 hT45
          have hRo := hRo.tch0 hT45
          have hHo := hHo.tch0 hT45
          have nF_hB47 : ¬ F1 (w40.heap.size) := fun e => by have := hlt_ _ e; omega
          have hz_ := hMv.1.size
          have hGl_ := hG.1.lt
          have lR_hRo := hRo.lt
          have lR_hHo := hHo.lt
          refine st (by rfl) (S_appendR 27 3 (.int .i64 0) 1 8 (n := i) (m := 1) (A := R) (cp := rc) (cells := nats row) (news := [.int .i64 ((2 * n1 : Nat) : Int)]) (b := w40.heap.size) (off := 0) (c := 1) (by kernel_rfl) (by kernel_rfl) (by decide) (by kernel_rfl) (by kernel_rfl) (by kernel_rfl) hRo (by rfl) (fun k u hk => by rw [Nat.zero_add, hB47.cell]; exact hk) (by simp [oneV]) (by simp only [maxLen]; omega) (by omega) fun A49 cp50 w51 hO52 hw53 hT54 => ?_)
          have hG := hG.tchS hT54 (fun c e => nF_hRo c e)
          have hMv := hMv.newS hT54 nB_hRo
          have hHo := hHo.tch hT54 (fun c hc e => dj_hRo_hHo c e hc)
          have hRo : Own w51 0 3 1 (.slice A49 (i + 1) cp50) (i + 1) (nats (row ++ [2 * n1])) := by rw [nats_append]; exact hO52
          have nF_hRo : ∀ c, (Value.slice A49 (i + 1) cp50).ownBlock = some c → ¬ F1 c := fun c hc => (hw53 c hc).elim (nF_hRo c) (fun q e => by have := hGl_ _ e; omega)
          have nB_hRo : ∀ c, (Value.slice A49 (i + 1) cp50).ownBlock = some c → w.heap.size ≤ c := fun c hc => (hw53 c hc).elim (nB_hRo c) (fun q => by omega)
          have dj_hRo_hHo : ∀ c, (Value.slice A49 (i + 1) cp50).ownBlock = some c → (Value.slice A38 (q + 1) cp39).ownBlock = some c → False := fun c h1 h2 => (hw53 c h1).elim (fun q => dj_hRo_hHo c q h2) (fun q => by have := lR_hHo c h2; omega)
          refine sg [(10, .slice A49 (i + 1) cp50)] (by kernel_rfl) ?_
          refine op_nil ?_
          refine W_fg [(0, .pointer (some ⟨p, 0, none⟩)), (1, .int .i64 ((wd : Nat) : Int)), (2, .int .u64 ((x : Nat) : Int)), (3, .int .u64 ((ins : Nat) : Int)), (8, .slice none 0 0), (9, .slice none 0 0), (10, .slice A49 (i + 1) cp50), (11, .slice A38 (q + 1) cp39), (12, .int .i64 ((i : Nat) : Int)), (13, .int .i64 ((2 * n1 : Nat) : Int)), (14, .int .i64 ((2 * n1 : Nat) : Int)), (17, .bool (decide (((i : Nat) : Int) < ((wd : Nat) : Int)))), (27, .bool ((((ins / pw i : Nat) : Int) % 2) == 1)), (34, .bool (!(x.testBit i)))] (by kernel_rfl) fun ρ => ?_
          refine W_region (by kernel_rfl) ?_
          refine sg [(18, .int .i64 ((i : Nat) : Int)), (19, .int .i64 (IntKind.i64.wrap (((i : Nat) : Int) + 1)))] (by kernel_rfl) ?_
          rw [show IntKind.i64.wrap (((i : Nat) : Int) + 1) = ((i : Nat) : Int) + 1 from wrap_i64 (by omega) (by omega)]
          refine fixR (y := ((i + 1 : Nat) : Int)) (by omega) ?_
          refine sg [(12, .int .i64 ((i + 1 : Nat) : Int))] (by kernel_rfl) ?_
          refine op_nil ?_
          refine ⟨_, ?_, F1, (n1 + 1), (fun v => I1 v ∨ v = n1), A49, cp50, A38, cp39, row ++ [2 * n1], hold ++ [2 * n1], q + 1, i + 1, _, updL_self (by kernel_rfl), ?_, hri.input (by omega) ((bit_div ins i).1 (by omega)) (.inl ⟨rfl, by assumption⟩), by omega, by omega, nF_hRo, nB_hRo, nF_hHo, nB_hHo, dj_hRo_hHo, hG, hMv, hRo, hHo, rfl⟩
          · omega
          · omega
      · replace hc5 : ((ins / pw i : Nat) : Int) % 2 ≠ 1 := (ne_of_beq_false hc5)
        refine W_seq ?_
        refine W_fg [(0, .pointer (some ⟨p, 0, none⟩)), (1, .int .i64 ((wd : Nat) : Int)), (2, .int .u64 ((x : Nat) : Int)), (3, .int .u64 ((ins : Nat) : Int)), (8, .slice none 0 0), (9, .slice none 0 0), (10, .slice R i rc), (11, .slice H q hc), (12, .int .i64 ((i : Nat) : Int)), (13, .int .i64 0), (17, .bool (decide (((i : Nat) : Int) < ((wd : Nat) : Int)))), (27, .bool ((((ins / pw i : Nat) : Int) % 2) == 1))] (by kernel_rfl) fun ρ => ?_
        refine W_region (by kernel_rfl) ?_
        refine sg [(41, .int .u64 ((x : Nat) : Int)), (42, .int .i64 ((i : Nat) : Int))] (by kernel_rfl) ?_
        refine st (by rfl) (S_call (args := [.int .u64 ((x : Nat) : Int), .int .i64 ((i : Nat) : Int)]) (by kernel_rfl) (rbit_ok x i _ (by omega)) ?_)
        rintro _ w55 ⟨rfl, hT56⟩
        have hG := hG.tch0 hT56
        have hMv := hMv.then0 hT56
        have hRo := hRo.tch0 hT56
        have hHo := hHo.tch0 hT56
        refine sg [(44, .bool (!(x.testBit i)))] (by kernel_rfl) ?_
        refine op_nil ?_
        refine W_cond (!(x.testBit i)) (by kernel_rfl) (by kernel_rfl) (fun hc57 => ?_) (fun hc57 => ?_)
        · replace hc57 : x.testBit i = false := ((not_t hc57))
          refine W_region (by kernel_rfl) ?_
          refine sg [(45, .int .i64 0)] (by kernel_rfl) ?_
          refine sg [(46, .int .i64 (IntKind.i64.wrap (BitVec.ofInt 64 0 ^^^ BitVec.ofInt 64 1).toNat))] (by kernel_rfl) ?_
          rw [show IntKind.i64.wrap (BitVec.ofInt 64 0 ^^^ BitVec.ofInt 64 1).toNat = 1 from by decide]
          refine sg [(13, .int .i64 1)] (by kernel_rfl) ?_
          refine op_nil ?_
          refine W_region (by kernel_rfl) ?_
          refine sg [(47, .slice R i rc), (48, .int .i64 1)] (by kernel_rfl) ?_
          have hlt_ := hG.1.lt
          have hz62 := hMv.1.size
          refine st (by rfl) (S_new (v := .slice (some ⟨w55.heap.size, 0, none⟩) 1 1) (ob := .cells #[.int .i64 1] 3) (by kernel_rfl) fun w58 hT59 hs60 hB61 => ?_)
          replace hB61 : Blk w58 (w55.heap.size) 3 [.int .i64 1] := hB61
          have hG := hG.tch0 hT59
          have hMv := hMv.then0 hT59
          have hRo := hRo.tch0 hT59
          have hHo := hHo.tch0 hT59
          have nF_hB61 : ¬ F1 (w55.heap.size) := fun e => by have := hlt_ _ e; omega
          have hz_ := hMv.1.size
          have hGl_ := hG.1.lt
          have lR_hRo := hRo.lt
          have lR_hHo := hHo.lt
          refine st (by rfl) (S_appendR 27 3 (.int .i64 0) 1 8 (n := i) (m := 1) (A := R) (cp := rc) (cells := nats row) (news := [.int .i64 1]) (b := w55.heap.size) (off := 0) (c := 1) (by kernel_rfl) (by kernel_rfl) (by decide) (by kernel_rfl) (by kernel_rfl) (by kernel_rfl) hRo (by rfl) (fun k u hk => by rw [Nat.zero_add, hB61.cell]; exact hk) (by simp [oneV]) (by simp only [maxLen]; omega) (by omega) fun A63 cp64 w65 hO66 hw67 hT68 => ?_)
          have hG := hG.tchS hT68 (fun c e => nF_hRo c e)
          have hMv := hMv.newS hT68 nB_hRo
          have hHo := hHo.tch hT68 (fun c hc e => dj_hRo_hHo c e hc)
          have hRo : Own w65 0 3 1 (.slice A63 (i + 1) cp64) (i + 1) (nats (row ++ [1])) := by rw [nats_append]; exact hO66
          have nF_hRo : ∀ c, (Value.slice A63 (i + 1) cp64).ownBlock = some c → ¬ F1 c := fun c hc => (hw67 c hc).elim (nF_hRo c) (fun q e => by have := hGl_ _ e; omega)
          have nB_hRo : ∀ c, (Value.slice A63 (i + 1) cp64).ownBlock = some c → w.heap.size ≤ c := fun c hc => (hw67 c hc).elim (nB_hRo c) (fun q => by omega)
          have dj_hRo_hHo : ∀ c, (Value.slice A63 (i + 1) cp64).ownBlock = some c → (Value.slice H (q) hc).ownBlock = some c → False := fun c h1 h2 => (hw67 c h1).elim (fun q => dj_hRo_hHo c q h2) (fun q => by have := lR_hHo c h2; omega)
          refine sg [(10, .slice A63 (i + 1) cp64)] (by kernel_rfl) ?_
          refine op_nil ?_
          refine W_fg [(0, .pointer (some ⟨p, 0, none⟩)), (1, .int .i64 ((wd : Nat) : Int)), (2, .int .u64 ((x : Nat) : Int)), (3, .int .u64 ((ins : Nat) : Int)), (8, .slice none 0 0), (9, .slice none 0 0), (10, .slice A63 (i + 1) cp64), (11, .slice H q hc), (12, .int .i64 ((i : Nat) : Int)), (13, .int .i64 1), (17, .bool (decide (((i : Nat) : Int) < ((wd : Nat) : Int)))), (27, .bool ((((ins / pw i : Nat) : Int) % 2) == 1)), (44, .bool (!(x.testBit i)))] (by kernel_rfl) fun ρ => ?_
          refine W_region (by kernel_rfl) ?_
          refine sg [(18, .int .i64 ((i : Nat) : Int)), (19, .int .i64 (IntKind.i64.wrap (((i : Nat) : Int) + 1)))] (by kernel_rfl) ?_
          rw [show IntKind.i64.wrap (((i : Nat) : Int) + 1) = ((i : Nat) : Int) + 1 from wrap_i64 (by omega) (by omega)]
          refine fixR (y := ((i + 1 : Nat) : Int)) (by omega) ?_
          refine sg [(12, .int .i64 ((i + 1 : Nat) : Int))] (by kernel_rfl) ?_
          refine op_nil ?_
          refine ⟨_, ?_, F1, n1, I1, A63, cp64, H, hc, row ++ [1], hold, q, i + 1, _, updL_self (by kernel_rfl), ?_, hri.const (by show (1 : Nat) / 2 < _; omega) (fun be hm => by rw [show x.testBit i = false by assumption]; exact hG.2.t1 hm), by omega, by omega, nF_hRo, nB_hRo, nF_hHo, nB_hHo, dj_hRo_hHo, hG, hMv, hRo, hHo, rfl⟩
          · omega
          · omega
        · replace hc57 : x.testBit i = true := ((not_f hc57))
          refine W_skip ?_
          refine W_region (by kernel_rfl) ?_
          refine sg [(47, .slice R i rc), (48, .int .i64 0)] (by kernel_rfl) ?_
          have hlt_ := hG.1.lt
          have hz73 := hMv.1.size
          refine st (by rfl) (S_new (v := .slice (some ⟨w55.heap.size, 0, none⟩) 1 1) (ob := .cells #[.int .i64 0] 3) (by kernel_rfl) fun w69 hT70 hs71 hB72 => ?_)
          replace hB72 : Blk w69 (w55.heap.size) 3 [.int .i64 0] := hB72
          have hG := hG.tch0 hT70
          have hMv := hMv.then0 hT70
          have hRo := hRo.tch0 hT70
          have hHo := hHo.tch0 hT70
          have nF_hB72 : ¬ F1 (w55.heap.size) := fun e => by have := hlt_ _ e; omega
          have hz_ := hMv.1.size
          have hGl_ := hG.1.lt
          have lR_hRo := hRo.lt
          have lR_hHo := hHo.lt
          refine st (by rfl) (S_appendR 27 3 (.int .i64 0) 1 8 (n := i) (m := 1) (A := R) (cp := rc) (cells := nats row) (news := [.int .i64 0]) (b := w55.heap.size) (off := 0) (c := 1) (by kernel_rfl) (by kernel_rfl) (by decide) (by kernel_rfl) (by kernel_rfl) (by kernel_rfl) hRo (by rfl) (fun k u hk => by rw [Nat.zero_add, hB72.cell]; exact hk) (by simp [oneV]) (by simp only [maxLen]; omega) (by omega) fun A74 cp75 w76 hO77 hw78 hT79 => ?_)
          have hG := hG.tchS hT79 (fun c e => nF_hRo c e)
          have hMv := hMv.newS hT79 nB_hRo
          have hHo := hHo.tch hT79 (fun c hc e => dj_hRo_hHo c e hc)
          have hRo : Own w76 0 3 1 (.slice A74 (i + 1) cp75) (i + 1) (nats (row ++ [0])) := by rw [nats_append]; exact hO77
          have nF_hRo : ∀ c, (Value.slice A74 (i + 1) cp75).ownBlock = some c → ¬ F1 c := fun c hc => (hw78 c hc).elim (nF_hRo c) (fun q e => by have := hGl_ _ e; omega)
          have nB_hRo : ∀ c, (Value.slice A74 (i + 1) cp75).ownBlock = some c → w.heap.size ≤ c := fun c hc => (hw78 c hc).elim (nB_hRo c) (fun q => by omega)
          have dj_hRo_hHo : ∀ c, (Value.slice A74 (i + 1) cp75).ownBlock = some c → (Value.slice H (q) hc).ownBlock = some c → False := fun c h1 h2 => (hw78 c h1).elim (fun q => dj_hRo_hHo c q h2) (fun q => by have := lR_hHo c h2; omega)
          refine sg [(10, .slice A74 (i + 1) cp75)] (by kernel_rfl) ?_
          refine op_nil ?_
          refine W_fg [(0, .pointer (some ⟨p, 0, none⟩)), (1, .int .i64 ((wd : Nat) : Int)), (2, .int .u64 ((x : Nat) : Int)), (3, .int .u64 ((ins : Nat) : Int)), (8, .slice none 0 0), (9, .slice none 0 0), (10, .slice A74 (i + 1) cp75), (11, .slice H q hc), (12, .int .i64 ((i : Nat) : Int)), (13, .int .i64 0), (17, .bool (decide (((i : Nat) : Int) < ((wd : Nat) : Int)))), (27, .bool ((((ins / pw i : Nat) : Int) % 2) == 1)), (44, .bool (!(x.testBit i)))] (by kernel_rfl) fun ρ => ?_
          refine W_region (by kernel_rfl) ?_
          refine sg [(18, .int .i64 ((i : Nat) : Int)), (19, .int .i64 (IntKind.i64.wrap (((i : Nat) : Int) + 1)))] (by kernel_rfl) ?_
          rw [show IntKind.i64.wrap (((i : Nat) : Int) + 1) = ((i : Nat) : Int) + 1 from wrap_i64 (by omega) (by omega)]
          refine fixR (y := ((i + 1 : Nat) : Int)) (by omega) ?_
          refine sg [(12, .int .i64 ((i + 1 : Nat) : Int))] (by kernel_rfl) ?_
          refine op_nil ?_
          refine ⟨_, ?_, F1, n1, I1, A74, cp75, H, hc, row ++ [0], hold, q, i + 1, _, updL_self (by kernel_rfl), ?_, hri.const (by show (0 : Nat) / 2 < _; omega) (fun be hm => by rw [show x.testBit i = true by assumption]; exact hG.2.t0 hm), by omega, by omega, nF_hRo, nB_hRo, nF_hHo, nB_hHo, dj_hRo_hHo, hG, hMv, hRo, hHo, rfl⟩
          · omega
          · omega
    · replace hc2 : ((wd : Nat) : Int) ≤ ((i : Nat) : Int) := (Int.not_lt.1 (of_decide_eq_false hc2))
      refine W_exit ?_
      refine X_hit ?_
      refine W_seq ?_
      refine W_region (by kernel_rfl) ?_
      refine sg [(51, .slice R i rc), (52, .slice H q hc), (8, .slice R i rc), (9, .slice H q hc)] (by kernel_rfl) ?_
      refine op_nil ?_
      refine W_ret ?_
      refine ⟨_, Res_of (v := .tuple #[.slice R i rc, .slice H q hc]) (by kernel_rfl), ?_⟩
      have hie : i = wd := by omega
      have hql : q = hold.length := by have := hHo.rd1.1; rw [nats_length] at this; omega
      subst hie; subst hql
      exact ⟨F1, n1, I1, R, rc, H, hc, row, hold, rfl, hRo.rdx nF_hRo, hHo.rdx nF_hHo, (fun c h => by rw [own_blk R i rc] at h; exact nB_hRo c h), (fun c h => by rw [own_blk H hold.length hc] at h; exact nB_hHo c h), hG, hMv, hri, by omega, hHo.adok, by omega⟩

end Go.Proofs.YtnlecdpiccgdpaaV

set_option linter.unusedVariables false
set_option linter.unusedSimpArgs false
namespace Go.Proofs.YtnlecdpiccgdpaaV
open Go Go.RowKit Go.Proofs
section
variable {P : Program} {ρ : Env} {w : World} {J : Env → World → Prop}
theorem R_pure {o : Oper} {v : Next} (h : pureR P (execOp (evR ρ) o) = some v) : (execOp (evR ρ) o).run P w = .ok v w := pureR_run h
variable {d : Option Tmp} {t : TypeId} {x lo hi mx : Operand} {ty : TypeId} {pos : String} {af : Array Edge} {g : Option (Nat × Bool)} {A : Option Addr} {n cp : Nat}
/-- Where a slice of a slice begins. -/
def slA (A : Option Addr) (l cap : Nat) : Option Addr := if cap = l then A else A.map (·.add l)
theorem R_sliceL (l : Nat) (hx : evR ρ x = .slice A n cp) (hl : evR ρ lo = .int .i64 ((l : Nat) : Int)) (ht : P.underlying t = some (.slice (P.elem t))) (hz : pureR P (sizeOf (P.elem t)) = some 1) (h1 : l ≤ n) :
    (execOp (evR ρ) ⟨d, .slice t x (some lo) none none, ty, pos, af, g⟩).run P w = .ok (.value (.slice (slA A l cp) (n - l) (cp - l))) w := by
  simp only [execOp, hx, hl, Option.map]
  have := run_slice_l (w := w) t A n cp ht .i64 (l : Int) (by omega) (by omega)
  rw [pureR_run hz] at this
  simp only [Result.andThen, sliced, Int.toNat_natCast, Nat.mul_one] at this
  cases A <;> simp [run_sliceAt_slice (w := w) t _ _ _ _ ht, this, slA]
theorem R_sliceH (h : Nat) (hx : evR ρ x = .slice A n cp) (hh : evR ρ hi = .int .i64 ((h : Nat) : Int)) (ht : P.underlying t = some (.slice (P.elem t))) (hz : pureR P (sizeOf (P.elem t)) = some 1) (h1 : h ≤ cp) :
    (execOp (evR ρ) ⟨d, .slice t x none (some hi) none, ty, pos, af, g⟩).run P w = .ok (.value (.slice (slA A 0 cp) (h - 0) (cp - 0))) w := by
  simp only [execOp, hx, hh, Option.map]
  have := run_slice_h (w := w) t A n cp ht .i64 (h : Int) (by omega) (by omega)
  rw [pureR_run hz] at this
  simp only [Result.andThen, sliced, Int.toNat_natCast, Nat.mul_one] at this
  cases A <;> simp [run_sliceAt_slice (w := w) t _ _ _ _ ht, this, slA]
theorem R_sliceHM (h m : Nat) (hx : evR ρ x = .slice A n cp) (hh : evR ρ hi = .int .i64 ((h : Nat) : Int)) (hm : evR ρ mx = .int .i64 ((m : Nat) : Int)) (ht : P.underlying t = some (.slice (P.elem t))) (hz : pureR P (sizeOf (P.elem t)) = some 1) (h1 : h ≤ m) (h2 : m ≤ cp) :
    (execOp (evR ρ) ⟨d, .slice t x none (some hi) (some mx), ty, pos, af, g⟩).run P w = .ok (.value (.slice (slA A 0 m) (h - 0) (m - 0))) w := by
  simp only [execOp, hx, hh, hm, Option.map]
  have := run_slice_hm (w := w) t A n cp ht .i64 .i64 (h : Int) (m : Int) (by omega) (by omega) (by omega)
  rw [pureR_run hz] at this
  simp only [Result.andThen, sliced, Int.toNat_natCast, Nat.mul_one] at this
  cases A <;> simp [run_sliceAt_slice (w := w) t _ _ _ _ ht, this, slA]
theorem R_sliceLHM (l h m : Nat) (hx : evR ρ x = .slice A n cp) (hl : evR ρ lo = .int .i64 ((l : Nat) : Int)) (hh : evR ρ hi = .int .i64 ((h : Nat) : Int)) (hm : evR ρ mx = .int .i64 ((m : Nat) : Int)) (ht : P.underlying t = some (.slice (P.elem t))) (hz : pureR P (sizeOf (P.elem t)) = some 1) (h0 : l ≤ h) (h1 : h ≤ m) (h2 : m ≤ cp) :
    (execOp (evR ρ) ⟨d, .slice t x (some lo) (some hi) (some mx), ty, pos, af, g⟩).run P w = .ok (.value (.slice (slA A l m) (h - l) (m - l))) w := by
  simp only [execOp, hx, hl, hh, hm, Option.map]
  have := run_slice_lhm (w := w) t A n cp ht .i64 .i64 .i64 (l : Int) (h : Int) (m : Int) (by omega) (by omega) (by omega) (by omega)
  rw [pureR_run hz] at this
  simp only [Result.andThen, sliced, Int.toNat_natCast, Nat.mul_one] at this
  cases A <;> simp [run_sliceAt_slice (w := w) t _ _ _ _ ht, this, slA]
end
section
variable {P : Program} {ρ : Env} {w : World} {J : Env → World → Prop}
/-- append(v, x..), of one-cell elements, whatever x is. -/
theorem S_appendX {d : Option Tmp} {x y : Operand} {ty : TypeId} {pos : String} {af : Array Edge} {g : Option (Nat × Bool)} (t e : TypeId) (z : Value) (by_ : Nat) {n m : Nat} {A B : Option Addr} {cp c : Nat} {cells news : List Value}
    (hi : (P.info? e).map (fun i => (i.zero, i.size, i.bytes)) = some (some z, 1, by_)) (hzs : z.cells.size = 1) (ht : pureR P (underlying t) = some (.slice e))
    (hx : evR ρ x = .slice A n cp) (hy : evR ρ y = .slice B m c) (hown : Own w 0 e 1 (.slice A n cp) n cells) (hB : RdW w 1 m B news) (h0B : m = 0 → B = none ∨ ∃ b off, B = some ⟨b, off, none⟩) (h1 : ∀ u ∈ news, oneV u = true)
    (h63 : n + m ≤ maxLen) (hbytes : (n + m) * by_ ≤ 140737488355328)
    (h : ∀ A2 cp2 w1, Own w1 0 e 1 (.slice A2 (n + m) cp2) (n + m) (cells ++ news) → (∀ c, (Value.slice A2 (n + m) cp2).ownBlock = some c → (Value.slice A n cp).ownBlock = some c ∨ c = w.heap.size) → Tch (ownS (.slice A n cp)) w w1 → J (updO ρ d (.slice A2 (n + m) cp2)) w1) :
    Step P ⟨d, .call { callee := .builtin .append, args := #[x, y], argTypes := #[t, t] }, ty, pos, af, g⟩ ρ w J := by
  have key : (∃ b off, B = some ⟨b, off, none⟩ ∧ ∀ k u, news[k]? = some u → w.cell? ⟨b, off + k, none⟩ = some u) ∨ (m = 0 ∧ B = none) := by
    rcases Nat.eq_zero_or_pos m with q | q
    · rcases h0B q with r | ⟨b, off, r⟩
      · exact .inr ⟨q, r⟩
      · refine .inl ⟨b, off, r, fun k u hk => ?_⟩
        have : news = [] := List.eq_nil_of_length_eq_zero (by have := hB.1; omega)
        rw [this] at hk; cases hk
    · obtain ⟨b, off, r, _, hc⟩ := hB.2.2 q
      exact .inl ⟨b, off, r, hc⟩
  rcases key with ⟨b, off, rfl, hc⟩ | ⟨rfl, rfl⟩
  · exact S_appendR t e z 1 by_ (n := n) (m := m) (A := A) (cp := cp) (cells := cells) (news := news) (b := b) (off := off) (c := c) hi hzs (by omega) ht hx hy hown hB.1 hc h1 h63 hbytes h
  · have hnil : news = [] := List.eq_nil_of_length_eq_zero (by have := hB.1; omega)
    subst hnil
    obtain ⟨i, hi1, hi2, hi3, hi4⟩ := info_of hi
    have ht' : P.underlying t = some (.slice e) := by
      have := pureR_run (w := w) ht
      simp only [underlying] at this
      cases hu : P.underlying t with
      | none => simp [hu] at this
      | some u => simp [hu] at this; rw [this]
    have hcp : n ≤ cp := by
      rcases hown with ⟨_, ⟨hv, hn⟩ | ⟨b, cap, cur, hv, _, _, hn, _⟩⟩
      · omega
      · injection hv with _ _ q; omega
    refine S_val (v := .slice A n cp) (w' := w) ?_ (h A cp w (by simpa using hown) (fun c hc => .inl hc) (Tch.refl _ _))
    simp only [execOp, resolve, invoke, builtin, Array.map, hx, hy]
    cases A <;> simp [hx, hy, Builtin.append_, run_underlying ht', sizeOf, typeInfo, zeroValue, hi1, hi2, Builtin.lenOf, Builtin.firstCells, hcp, storeCells]
end
end Go.Proofs.YtnlecdpiccgdpaaV

set_option linter.unusedVariables false
set_option linter.unusedSimpArgs false
namespace Go.Proofs.YtnlecdpiccgdpaaV
open Go Go.RowKit Go.Proofs
theorem mvB_congr {up : Bool} {m : Nat} {A A' : Nat → Bool} {fl fl' : Bool} {s j : Nat} (h : ∀ j, j < m → A j = A' j) (hf : fl = fl') (hj : j < m) : mvB up m A fl s j = mvB up m A' fl' s j := by
  subst hf
  unfold mvB
  split
  · split
    · exact h _ (by omega)
    · rfl
  · split
    · exact h _ (by omega)
    · rfl
theorem cut_same {w x j : Nat} (hj : j < w) : (cutN w x).testBit j = x.testBit j := by rw [cut_bit, decide_eq_true hj, Bool.true_and]
theorem bval_test {m : Nat} {f : Nat → Bool} {j : Nat} (hj : j < m) : (bval m f).testBit j = f j := by rw [bval_bit, decide_eq_true hj, Bool.true_and]
theorem move_says {be : Nat → Bool} {wd x1 x2 : Nat} {up fl fl' : Bool} {r row1 row2 : List Nat} (hv : ∀ j, j < wd → lt_ be (r.getD j 0) = mvB up wd (fun j => lt_ be (row1.getD j 0)) fl (bval wd (fun j => lt_ be (row2.getD j 0))) j)
    (h1 : ∀ j, j < wd → lt_ be (row1.getD j 0) = x1.testBit j) (h2 : ∀ j, j < wd → lt_ be (row2.getD j 0) = x2.testBit j) (hf : fl = fl') :
    ∀ j, j < wd → lt_ be (r.getD j 0) = (bval wd (mvB up wd (fun j => (cutN wd x1).testBit j) fl' (cutN wd x2))).testBit j := fun j hj => by
  rw [bval_test hj, hv j hj, bval_cut h2]
  exact mvB_congr (fun k hk => (h1 k hk).trans (cut_same hk).symm) hf hj
/-- Two words' rows, of which the second one is made after the first one. -/
theorem two_uniq {n0 n1 n2 w x1 i1 x2 i2 : Nat} {cs cs2 : List (List Nat)} {I0 I1 I2 : Nat → Prop} {r1 h1 r2 h2 : List Nat} (a : RowI n0 cs I0 n1 I1 w r1 h1 x1 i1) (b : RowI n1 cs2 I1 n2 I2 w r2 h2 x2 i2) : ∀ h h', h ∈ h1 ++ h2 → h' ∈ h1 ++ h2 → h / 2 = h' / 2 → h = h' := fun h h' q q' e => by
  rcases List.mem_append.1 q with q | q <;> rcases List.mem_append.1 q' with q' | q'
  · exact a.uniq h h' q q' e
  · have := (a.new h q).2.1; have := (b.new h' q').1; omega
  · have := (a.new h' q').2.1; have := (b.new h q).1; omega
  · exact b.uniq h h' q q' e
theorem two_in {n0 n1 n2 w x1 i1 x2 i2 : Nat} {cs cs2 : List (List Nat)} {I1 I2 : Nat → Prop} {r1 h1 r2 h2 : List Nat} (a : RowI n0 cs (fun _ => False) n1 I1 w r1 h1 x1 i1) (b : RowI n1 cs2 I1 n2 I2 w r2 h2 x2 i2) : ∀ v, I2 v → ∃ x, x ∈ h1 ++ h2 ∧ x / 2 = v := fun v hv => by
  rcases b.inp v hv with q | ⟨h, q, e⟩
  · rcases a.inp v q with q | ⟨h, q, e⟩
    · exact q.elim
    · exact ⟨h, List.mem_append.2 (.inl q), e⟩
  · exact ⟨h, List.mem_append.2 (.inr q), e⟩
theorem two_fit {n0 n1 n2 w x1 i1 x2 i2 : Nat} {cs cs2 : List (List Nat)} {I0 I1 I2 : Nat → Prop} {r1 h1 r2 h2 : List Nat} (a : RowI n0 cs I0 n1 I1 w r1 h1 x1 i1) (b : RowI n1 cs2 I1 n2 I2 w r2 h2 x2 i2) : ∀ x, x ∈ h1 ++ h2 → I2 (x / 2) ∧ (fun v => decide (2 * v ∈ h1 ++ h2)) (x / 2) = !decide (x % 2 = 1) := fun x hx => by
  refine ⟨?_, hold_truths (two_uniq a b) x hx⟩
  rcases List.mem_append.1 hx with q | q
  · exact b.old _ (a.new x q).2.2
  · exact (b.new x q).2.2
/-- What such rows say, where the inputs are as they were put. -/
theorem two_says {n0 n1 n2 w x1 i1 x2 i2 : Nat} {cs cs2 : List (List Nat)} {I0 I1 I2 : Nat → Prop} {r1 h1 r2 h2 : List Nat} {be : Nat → Bool} (a : RowI n0 cs I0 n1 I1 w r1 h1 x1 i1) (b : RowI n1 cs2 I1 n2 I2 w r2 h2 x2 i2) (hm : Mod cs be) (hm2 : Mod cs2 be) (hbt : ∀ v, I2 v → be v = (fun v => decide (2 * v ∈ h1 ++ h2)) v) :
    (∀ j, j < w → lt_ be (r1.getD j 0) = x1.testBit j) ∧ (∀ j, j < w → lt_ be (r2.getD j 0) = x2.testBit j) := by
  have ht := hold_true (be := be) (two_uniq a b) (fun x hx => hbt _ (two_fit a b x hx).1)
  exact ⟨a.val be hm (fun h hh => ht h (List.mem_append.2 (.inl hh))), b.val be hm2 (fun h hh => ht h (List.mem_append.2 (.inr hh)))⟩
theorem RowI.plain {n0 n1 w x i : Nat} {cs : List (List Nat)} {I0 I1 : Nat → Prop} {r h : List Nat} (a : RowI n0 cs I0 n1 I1 w r h x 0) : h = [] ∧ ∀ be, Mod cs be → ∀ j, j < w → lt_ be (r.getD j 0) = x.testBit j := by
  have e : h = [] := a.none (fun j _ => Nat.zero_testBit j)
  exact ⟨e, fun be hm => a.val be hm (fun z hz => by rw [e] at hz; cases hz)⟩
theorem RowI.noin {n0 n1 w x i : Nat} {cs : List (List Nat)} {I0 I1 : Nat → Prop} {r h : List Nat} (a : RowI n0 cs I0 n1 I1 w r h x 0) (hI : ∀ v, ¬ I0 v) : ∀ v, ¬ I1 v := fun v hv => by
  rcases a.inp v hv with q | ⟨z, hz, _⟩
  · exact hI v q
  · rw [(RowI.plain (i := 0) a).1] at hz; cases hz
theorem u64nat (y : Int) : ∃ k : Nat, IntKind.u64.wrap y = ((k : Nat) : Int) := by
  refine ⟨(IntKind.u64.wrap y).toNat, ?_⟩
  have : 0 ≤ IntKind.u64.wrap y := by
    simp only [IntKind.wrap, IntKind.bits, IntKind.signed]; simp; omega
  omega
theorem Blk.own0 {w : World} {g : Nat} (h : Blk w g 3 []) : Own w 0 3 1 (.slice (some ⟨g, 0, none⟩) 0 0) 0 [] := Blk.own1 (cells := []) (sp := []) h rfl rfl (Nat.le_refl _) (by simp [maxLen])
theorem nats_oneV (l : List Nat) : ∀ u ∈ nats l, oneV u = true := fun u hu => by
  simp only [nats, List.mem_map] at hu
  obtain ⟨x, _, rfl⟩ := hu
  rfl
theorem RdX.addr {F : Nat → Prop} {w : World} {m : Nat} {A : Option Addr} {cells : List Value} (h : RdX F w m A cells) (hm : 0 < m) : ∃ b off, A = some ⟨b, off, none⟩ := h.1.some_ hm
theorem badR_neg {m k : Nat} {a b : List Int} (hk : k < m) (hl : b.length = m) : BadR m a m (b.set k (-1)) := fun q => by
  have := q.2.2.2 k hk
  rw [List.getD_eq_getElem?_getD, List.getElem?_set_self (by omega)] at this
  simp at this
theorem badR_neg1 {m k : Nat} {a b : List Int} (hk : k < m) (hl : a.length = m) : BadR m (a.set k (-1)) m b := fun q => by
  have := q.2.2.1 k hk
  rw [List.getD_eq_getElem?_getD, List.getElem?_set_self (by omega)] at this
  simp at this
theorem badR_len {m k : Nat} {a b : List Int} (h : m ≠ k) : BadR m a k b := fun q => h q.2.1
theorem RdX.tail {F : Nat → Prop} {w : World} {m cp : Nat} {A : Option Addr} {a : List Nat} (h : RdX F w m A (nats a)) (hm : 1 ≤ m) : ∃ b, RdX F w (m - 1) (slA A 1 cp) (nats b) := by
  obtain ⟨b, off, rfl, hb, hc⟩ := h.1.2.2 (by omega)
  have hl := h.len
  by_cases e : cp = 1
  · refine ⟨a.take (m - 1), ⟨by rw [nats_length]; simp; omega, by have := h.1.2.1; omega, fun q => ⟨b, off, by unfold slA; rw [if_pos e], hb, fun k u hk => hc k u ?_⟩⟩, fun c q => h.2 c (by unfold slA at q; rw [if_pos e] at q; exact q)⟩
    unfold nats at *
    rw [List.map_take, List.getElem?_take] at hk
    split at hk
    · exact hk
    · cases hk
  · have es : slA (some ⟨b, off, none⟩) 1 cp = some ⟨b, off + 1, none⟩ := by unfold slA; rw [if_neg e]; rfl
    refine ⟨a.drop 1, ⟨by rw [nats_length]; simp; omega, by have := h.1.2.1; omega, fun q => ⟨b, off + 1, es, hb, fun k u hk => ?_⟩⟩, fun c q => h.2 c (by rw [es] at q; exact q)⟩
    have := hc (1 + k) u (by unfold nats at *; rw [List.map_drop, List.getElem?_drop] at hk; exact hk)
    rw [Nat.add_assoc]; exact this
end Go.Proofs.YtnlecdpiccgdpaaV

set_option linter.unusedVariables false
set_option linter.unusedSimpArgs false
namespace Go.Proofs.YtnlecdpiccgdpaaV
open Go Go.RowKit Go.Proofs
theorem div_bit (x i j : Nat) : (x / 2 ^ i).testBit j = x.testBit (i + j) := by
  rw [Nat.testBit_div_two_pow, Nat.add_comm]
theorem bval_div (m i x : Nat) : bval m (fun k => x.testBit (i + k)) = (x / 2 ^ i) % 2 ^ m := by
  rw [← bval_of]
  exact bval_congr fun j _ => (div_bit x i j).symm
theorem mul_bit (A i m : Nat) (B : Nat → Bool) (k : Nat) (hk : k < m) :
    sumB (fun k => (A * bval i B).testBit (i + k)) (fun k => B i && A.testBit k) false k = (A * bval (i + 1) B).testBit (i + k) := by
  have h1 : sumB (fun k => (A * bval i B).testBit (i + k)) (fun k => B i && A.testBit k) false k = (bval m (sumB (fun k => (A * bval i B).testBit (i + k)) (fun k => B i && A.testBit k) false)).testBit k := by
    rw [bval_bit, decide_eq_true hk, Bool.true_and]
  have e : A * bval (i + 1) B = A * bval i B + 2 ^ i * (if B i = true then A else 0) := by
    rw [bval_succ, Nat.mul_add]
    congr 1
    split
    · rw [Nat.mul_comm]
    · rfl
  have e2 : bval m (fun k => B i && A.testBit k) = (if B i = true then A else 0) % 2 ^ m := by
    rw [← bval_of]
    refine bval_congr fun j _ => ?_
    cases B i <;> simp
  rw [h1, sum_mod, bval_div, e2, e, ← div_bit, Nat.add_mul_div_left _ _ (Nat.two_pow_pos i)]
  unfold pw
  simp only [Bool.false_eq_true, if_false, Nat.add_zero]
  rw [← Nat.add_mod, Nat.testBit_mod_two_pow, decide_eq_true hk, Bool.true_and]
theorem mul_low (A i : Nat) (B : Nat → Bool) (j : Nat) (hj : j < i) : (A * bval (i + 1) B).testBit j = (A * bval i B).testBit j := by
  have e : A * bval (i + 1) B = 2 ^ i * (if B i = true then A else 0) + A * bval i B := by
    rw [bval_succ, Nat.mul_add, Nat.add_comm]
    congr 1
    split
    · rw [Nat.mul_comm]
    · rfl
  have h2 : ∀ x : Nat, x.testBit j = (x % 2 ^ i).testBit j := fun x => by rw [Nat.testBit_mod_two_pow, decide_eq_true hj, Bool.true_and]
  rw [h2, h2 (A * bval i B), e, Nat.mul_add_mod]
/-! ### Division -/
/-- What is left of A's bits from i on. -/
def remN (a b i : Nat) : Nat := (a / 2 ^ i) % b
/-- The rest with one bit more. -/
def upN (a b i : Nat) : Nat := 2 * remN a b (i + 1) + (a.testBit i).toNat
def quoB (a b i : Nat) : Bool := decide (b ≤ upN a b i)
theorem bit_toNat (x : Nat) : (x.testBit 0).toNat = x % 2 := by
  rw [Nat.testBit_zero]
  rcases (show x % 2 = 0 ∨ x % 2 = 1 by omega) with e | e <;> simp [e]
theorem div_step (a i : Nat) : a / 2 ^ i = 2 * (a / 2 ^ (i + 1)) + (a.testBit i).toNat := by
  have h := bit_toNat (a / 2 ^ i)
  rw [div_bit, Nat.add_zero] at h
  rw [h, Nat.pow_succ, ← Nat.div_div_eq_div_mul]
  omega
theorem remN_lt {a b m i : Nat} (ha : a < 2 ^ m) (hb : b < 2 ^ m) : remN a b i < 2 ^ m := by
  unfold remN
  rcases Nat.eq_zero_or_pos b with e | e
  · subst e; rw [Nat.mod_zero]; exact Nat.lt_of_le_of_lt (Nat.div_le_self _ _) ha
  · exact Nat.lt_trans (Nat.mod_lt _ e) hb
theorem upN_lt {a b m i : Nat} (ha : a < 2 ^ m) (hb : b < 2 ^ m) : upN a b i < 2 ^ (m + 1) := by
  have := remN_lt (i := i + 1) ha hb
  have h2 := Bool.toNat_le (a.testBit i)
  unfold upN
  rw [Nat.pow_succ]; omega
theorem remN_top {a b m : Nat} (ha : a < 2 ^ m) : remN a b m = 0 := by
  unfold remN; rw [Nat.div_eq_of_lt ha, Nat.zero_mod]
theorem up_mod {x v c : Nat} (hc : c ≤ 1) : (2 * x + c) % v = if v ≤ 2 * (x % v) + c then 2 * (x % v) + c - v else 2 * (x % v) + c := by
  rcases Nat.eq_zero_or_pos v with e | e
  · subst e; simp
  · have hl := Nat.mod_lt x e
    have hd := Nat.div_add_mod x v
    have e2 : 2 * x + c = 2 * (x % v) + c + v * (2 * (x / v)) := by
      have : v * (2 * (x / v)) = 2 * (v * (x / v)) := by rw [Nat.mul_left_comm]
      omega
    rw [e2, Nat.add_mul_mod_self_left]
    split
    · rw [Nat.mod_eq_sub_mod (by omega), Nat.mod_eq_of_lt (by omega)]
    · exact Nat.mod_eq_of_lt (by omega)
theorem remN_step (a b i : Nat) : remN a b i = if quoB a b i = true then upN a b i - b else upN a b i := by
  unfold quoB
  unfold upN remN
  rw [div_step a i, up_mod (Bool.toNat_le _)]
  simp only [decide_eq_true_eq]
theorem quo_bit {a b : Nat} (hb : 0 < b) (j : Nat) : (a / b).testBit j = quoB a b j := by
  rw [← Nat.add_zero j, ← div_bit, Nat.div_div_eq_div_mul, Nat.mul_comm b, ← Nat.div_div_eq_div_mul, Nat.add_zero, div_step a j]
  unfold quoB upN remN
  generalize a / 2 ^ (j + 1) = x
  have hc := Bool.toNat_le (a.testBit j)
  generalize (a.testBit j).toNat = c at *
  have hl := Nat.mod_lt x hb
  have hd := Nat.div_add_mod x b
  have e2 : 2 * x + c = 2 * (x % b) + c + b * (2 * (x / b)) := by
    have : b * (2 * (x / b)) = 2 * (b * (x / b)) := by rw [Nat.mul_left_comm]
    omega
  rw [e2, Nat.add_mul_div_left _ _ hb, Nat.testBit_zero]
  refine decide_eq_decide.2 ?_
  rcases Nat.lt_or_ge (2 * (x % b) + c) b with h | h
  · rw [Nat.div_eq_of_lt h]; omega
  · rw [Nat.div_eq_sub_div hb h, Nat.div_eq_of_lt (by omega)]; omega
theorem quo_zero (a j : Nat) : quoB a 0 j = true := by simp [quoB]
theorem quo_val {a b m : Nat} (ha : a < 2 ^ m) : bval m (quoB a b) = if b = 0 then 2 ^ m - 1 else a / b := by
  split
  · rename_i e
    subst e
    rw [bval_congr (g := fun _ => true) (fun j _ => quo_zero a j)]
    clear ha
    induction m with
    | zero => rfl
    | succ m ih => unfold bval; rw [ih, Nat.pow_succ]; have := Nat.two_pow_pos m; simp; omega
  · rename_i e
    rw [bval_congr (g := fun j => (a / b).testBit j) (fun j _ => (quo_bit (by omega) j).symm), bval_of, Nat.mod_eq_of_lt (Nat.lt_of_le_of_lt (Nat.div_le_self _ _) ha)]
/-- A round: the rest with a bit more, less b where it isn't less. -/
theorem bval_cons (m : Nat) (c : Bool) (f : Nat → Bool) : bval (m + 1) (fun j => if j = 0 then c else f (j - 1)) = 2 * bval m f + c.toNat := by
  induction m with
  | zero => cases c <;> rfl
  | succ m ih =>
    rw [bval_succ, ih, bval_succ]
    have e : (if m + 1 = 0 then c else f (m + 1 - 1)) = f m := by rw [if_neg (by omega)]; rfl
    rw [e, Nat.pow_succ]
    split <;> omega
theorem bval_top (m : Nat) (f : Nat → Bool) (h : f m = false) : bval (m + 1) f = bval m f := by rw [bval_succ, h]; simp
/-! ### Rows cut and joined -/
theorem slA_some (b off l cp : Nat) : ∃ off', slA (some ⟨b, off, none⟩) l cp = some ⟨b, off', none⟩ := by
  unfold slA
  split
  · exact ⟨off, rfl⟩
  · exact ⟨off + l, by show some ((⟨b, off, none⟩ : Addr).add l) = _; rw [add_at]⟩
theorem slA_blk (A : Option Addr) (l cp : Nat) : blkOf (slA A l cp) = blkOf A := by
  unfold slA
  split
  · rfl
  · cases A with
    | none => rfl
    | some a =>
      show some ((a.add l).block) = some a.block
      unfold Addr.add
      split <;> rfl
theorem RdX.headT {F : Nat → Prop} {w : World} {m h cp : Nat} {A : Option Addr} {a : List Nat} (hX : RdX F w m A (nats a)) (hh : h ≤ m) : RdX F w h (slA A 0 cp) (nats (a.take h)) := by
  have hl := hX.len
  refine ⟨⟨by rw [nats_length]; simp; omega, by have := hX.1.2.1; omega, fun q => ?_⟩, fun c q => hX.2 c (by rw [slA_blk] at q; exact q)⟩
  obtain ⟨b, off, rfl, hb, hc⟩ := hX.1.2.2 (by omega)
  have es : slA (some ⟨b, off, none⟩) 0 cp = some ⟨b, off, none⟩ := by unfold slA; split <;> rfl
  refine ⟨b, off, es, hb, fun k u hk => hc k u ?_⟩
  unfold nats at *
  rw [List.map_take, List.getElem?_take] at hk
  split at hk
  · exact hk
  · cases hk
theorem RdX.dropT {F : Nat → Prop} {w : World} {m l cp : Nat} {A : Option Addr} {a : List Nat} (hX : RdX F w m A (nats a)) (hlm : l < m) (hcp : m ≤ cp) : RdX F w (m - l) (slA A l cp) (nats (a.drop l)) := by
  have hl := hX.len
  obtain ⟨b, off, rfl, hb, hc⟩ := hX.1.2.2 (by omega)
  have es : slA (some ⟨b, off, none⟩) l cp = some ⟨b, off + l, none⟩ := by unfold slA; rw [if_neg (by omega)]; show some ((⟨b, off, none⟩ : Addr).add l) = _; rw [add_at]
  refine ⟨⟨by rw [nats_length]; simp; omega, by have := hX.1.2.1; omega, fun q => ⟨b, off + l, es, hb, fun k u hk => ?_⟩⟩, fun c q => hX.2 c (by rw [es] at q; exact q)⟩
  have := hc (l + k) u (by unfold nats at *; rw [List.map_drop, List.getElem?_drop] at hk; exact hk)
  rw [Nat.add_assoc]; exact this
theorem getD_take (l : List Nat) (h j : Nat) (hj : j < h) : (l.take h).getD j 0 = l.getD j 0 := by
  simp only [List.getD_eq_getElem?_getD, List.getElem?_take, if_pos hj]
theorem getD_drop (l : List Nat) (h j : Nat) : (l.drop h).getD j 0 = l.getD (h + j) 0 := by
  simp only [List.getD_eq_getElem?_getD, List.getElem?_drop]
theorem getD_app (l r : List Nat) (j : Nat) : (l ++ r).getD j 0 = if j < l.length then l.getD j 0 else r.getD (j - l.length) 0 := by
  simp only [List.getD_eq_getElem?_getD, List.getElem?_append]
  split <;> rfl
section
variable {P : Program} {ρ : Env} {w : World} {J : Env → World → Prop}
/-- append(x.., y..), where x has no room. -/
theorem S_appendG {d : Option Tmp} {x y : Operand} {ty : TypeId} {pos : String} {af : Array Edge} {g : Option (Nat × Bool)} (t e : TypeId) (z : Value) (by_ : Nat) {n m : Nat} {A B : Option Addr} {cp c : Nat} {cells news : List Value}
    (hi : (P.info? e).map (fun i => (i.zero, i.size, i.bytes)) = some (some z, 1, by_)) (hzs : z.cells.size = 1) (ht : pureR P (underlying t) = some (.slice e))
    (hx : evR ρ x = .slice A n cp) (hy : evR ρ y = .slice B m c) (hA : RdW w 1 n A cells) (h0A : ∃ b off, A = some ⟨b, off, none⟩) (hB : RdW w 1 m B news) (h0 : 0 < m) (hcp : cp < n + m)
    (h63 : n + m ≤ maxLen) (hbytes : (n + m) * by_ ≤ 140737488355328)
    (h : ∀ g cp2 sp w1, Blk w1 g e (cells ++ news ++ sp) → (cells ++ news ++ sp).length = cp2 → n + m ≤ cp2 → cp2 ≤ maxLen → w.heap.size ≤ g → Tch N0 w w1 → J (updO ρ d (.slice (some ⟨g, 0, none⟩) (n + m) cp2)) w1) :
    Step P ⟨d, .call { callee := .builtin .append, args := #[x, y], argTypes := #[t, t] }, ty, pos, af, g⟩ ρ w J := by
  obtain ⟨i, hi1, hi2, hi3, hi4⟩ := info_of hi
  have ht' : P.underlying t = some (.slice e) := by
    have := pureR_run (w := w) ht
    simp only [underlying] at this
    cases hu : P.underlying t with
    | none => simp [hu] at this
    | some u => simp [hu] at this; rw [this]
  obtain ⟨bA, oA, rfl⟩ := h0A
  obtain ⟨bB, oB, rfl, _, hcB⟩ := hB.2.2 h0
  have hcA : ∀ j u, cells[j]? = some u → w.cell? ((⟨bA, oA, none⟩ : Addr).add j) = some u := fun j u hu => by
    rcases Nat.eq_zero_or_pos n with q | q
    · have : cells = [] := List.eq_nil_of_length_eq_zero (by have := hA.1; omega)
      rw [this] at hu; cases hu
    · obtain ⟨b', o', e', _, hc'⟩ := hA.2.2 q
      injection e' with e'; injection e' with e1 e2
      subst e1; subst e2
      rw [add_at]; exact hc' j u hu
  obtain ⟨v', w', hr, ho, hg⟩ := run_append_arg_grows (P := P) (w := w) t ty e i z 1 by_ ht' hi1 hi2 hi3 hi4 hzs (by omega) ⟨bA, oA, none⟩ n cp cells hA.1 hcA ⟨bB, oB, none⟩ m c news hB.1 (fun j u hu => by rw [add_at]; exact hcB j u hu) hcp h63 hbytes
  obtain ⟨hl', hc⟩ := ho
  rcases hc with ⟨_, hc⟩ | ⟨g', cap, cur, rfl, hg2, hgb, hn, hcap, hsz, htk⟩
  · omega
  · have e1 : cur.toList = cells ++ news ++ cur.toList.drop (n + m) := by
      rw [← htk]; simp
    refine S_val (v := .slice (some ⟨g', 0, none⟩) (n + m) cap) (w' := w') ?_ (h g' cap (cur.toList.drop (n + m)) w' ?_ ?_ hn hcap hg2 ⟨hg.os, hg.tape, hg.output, hg.size, fun k hk _ => hg.block k hk (fun e => by cases e)⟩)
    · simp only [execOp, resolve, invoke, builtin, Array.map, hx, hy]
      simp [hx, hy, hr]
    · unfold Blk; rw [← e1]; simpa using hgb
    · rw [← e1]; simpa using hsz
end
/-! ### What rows of products say -/
theorem div_round {mm j : Nat} {A B O X Y S R : Nat → Bool} {l : Bool} (hj : j < mm)
    (hO : ∀ t, t < mm + 1 → O t = (remN (bval mm A) (bval mm B) (j + 1)).testBit t)
    (hX : ∀ t, t < mm + 1 → X t = if t = 0 then A j else O (t - 1))
    (hY : ∀ t, t < mm + 1 → Y t = (bval mm B).testBit t) (hl : l = lsB X Y (mm + 1))
    (hS : ∀ t, t < mm + 1 → S t = sumB X (fun t => !Y t) true t) (hR : ∀ t, t < mm + 1 → R t = ite_ (!l) (S t) (X t)) :
    (!l) = quoB (bval mm A) (bval mm B) j ∧ ∀ t, t < mm + 1 → R t = (remN (bval mm A) (bval mm B) j).testBit t := by
  have ha := bval_lt mm A
  have hb := bval_lt mm B
  have hu := upN_lt (i := j) ha hb
  have hb1 : bval mm B < 2 ^ (mm + 1) := Nat.lt_of_lt_of_le hb (Nat.pow_le_pow_right (by decide) (by omega))
  have vX : bval (mm + 1) X = upN (bval mm A) (bval mm B) j := by
    rw [bval_congr hX, bval_cons, bval_eq (x := remN (bval mm A) (bval mm B) (j + 1)) (fun t ht => hO t (by omega)), Nat.mod_eq_of_lt (remN_lt ha hb)]
    unfold upN
    rw [bval_bit, decide_eq_true hj, Bool.true_and]
  have vY : bval (mm + 1) Y = bval mm B := by
    rw [bval_eq hY, Nat.mod_eq_of_lt hb1]
  have el : l = decide (upN (bval mm A) (bval mm B) j < bval mm B) := by rw [hl, lsB_val, vX, vY]
  have eq_ : (!l) = quoB (bval mm A) (bval mm B) j := by
    rw [el]; unfold quoB
    rw [← decide_not]
    exact decide_eq_decide.2 (by omega)
  refine ⟨eq_, fun t ht => ?_⟩
  rw [hR t ht, remN_step, eq_]
  have hbit : ∀ (f : Nat → Bool) (x : Nat), bval (mm + 1) f = x → f t = x.testBit t := fun f x e => by
    rw [← e, bval_bit, decide_eq_true ht, Bool.true_and]
  cases hq : quoB (bval mm A) (bval mm B) j with
  | false =>
    rw [if_neg (by simp), ← hbit X _ vX]
    simp [ite_]
  | true =>
    rw [if_pos rfl]
    have hle : bval mm B ≤ upN (bval mm A) (bval mm B) j := by unfold quoB at hq; exact of_decide_eq_true hq
    rw [show ite_ true (S t) (X t) = S t by simp [ite_], hS t ht]
    refine hbit _ _ ?_
    rw [sub_mod X Y, vX, vY]
    unfold subN pw
    rw [Nat.mod_eq_of_lt hb1]
    have e : upN (bval mm A) (bval mm B) j + (2 ^ (mm + 1) - bval mm B) = (upN (bval mm A) (bval mm B) j - bval mm B) + 2 ^ (mm + 1) := by omega
    rw [e, Nat.add_mod_right, Nat.mod_eq_of_lt (by omega)]
def mulF (A B : Nat → Bool) (m i j : Nat) : Bool := (bval m A * bval i B).testBit j
theorem mulF_zero (A B : Nat → Bool) (m j : Nat) : mulF A B m 0 j = false := by unfold mulF; rw [show bval 0 B = 0 from rfl, Nat.mul_zero, Nat.zero_testBit]
abbrev vo (be : Nat → Bool) (a : List Nat) : Nat → Bool := fun j => lt_ be (a.getD j 0)
theorem mul_round {n n1 n2 n3 i mm : Nat} {cs cs1 cs2 cs3 : List (List Nat)} {a b o r m2 : List Nat}
    (h : Rw n cs n1 cs1 mm o (fun be j => mulF (fun j => lt_ be (a.getD j 0)) (fun j => lt_ be (b.getD j 0)) mm i j)) (k : Rw n1 cs1 n2 cs2 (mm - i) m2 (fun be j => lt_ be (b.getD i 0) && lt_ be (a.getD j 0)))
    (s : Rw n2 cs2 n3 cs3 (mm - i) r (fun be j => sumB (fun j => lt_ be ((o.drop i).getD j 0)) (fun j => lt_ be (m2.getD j 0)) false j)) (hol : o.length = mm) (hi : i < mm) :
    Rw n cs n3 cs3 mm (o.take i ++ r) (fun be j => mulF (fun j => lt_ be (a.getD j 0)) (fun j => lt_ be (b.getD j 0)) mm (i + 1) j) where
  le := by have := h.le; have := k.le; have := s.le; omega
  sub := fun c hc => s.sub c (k.sub c (h.sub c hc))
  fit := fun j hj => by
    rw [getD_app, List.length_take, show min i o.length = i by omega]
    split
    · rename_i q; rw [getD_take _ _ _ q]; have := h.fit j hj; have := k.le; have := s.le; omega
    · exact s.fit _ (by omega)
  val := fun be hm j hj => by
    have hm2 := hm.sub s.sub
    have hm1 := hm2.sub k.sub
    rw [getD_app, List.length_take, show min i o.length = i by omega]
    split
    · rename_i q
      rw [getD_take _ _ _ q, h.val be hm1 j hj]
      exact (mul_low _ _ _ _ q).symm
    · rename_i q
      rw [s.val be hm (j - i) (by omega)]
      show sumB _ _ false (j - i) = mulF _ _ mm (i + 1) j
      have e : j = i + (j - i) := by omega
      rw [show mulF (fun j => lt_ be (a.getD j 0)) (fun j => lt_ be (b.getD j 0)) mm (i + 1) j = (bval mm (fun j => lt_ be (a.getD j 0)) * bval (i + 1) (fun j => lt_ be (b.getD j 0))).testBit (i + (j - i)) by rw [← e]; rfl]
      rw [← mul_bit _ i (mm - i) (fun j => lt_ be (b.getD j 0)) (j - i) (by omega)]
      refine sumB_congr (fun t ht => ?_) (fun t ht => ?_)
      · show lt_ be ((o.drop i).getD t 0) = _
        rw [getD_drop, h.val be hm1 (i + t) (by omega)]; rfl
      · show lt_ be (m2.getD t 0) = _
        rw [k.val be hm2 t (by omega), bval_bit, decide_eq_true (by omega), Bool.true_and]
/-- Some places of a row of gates from k on. -/
structure Qw (n : Nat) (cs : List (List Nat)) (n' : Nat) (cs' : List (List Nat)) (k m : Nat) (q : List Nat) (f : (Nat → Bool) → Nat → Bool) : Prop where
  le : n ≤ n'
  sub : ∀ c, c ∈ cs → c ∈ cs'
  fit : ∀ t, k ≤ t → t < m → q.getD t 0 / 2 < n'
  val : ∀ be, Mod cs' be → ∀ t, k ≤ t → t < m → lt_ be (q.getD t 0) = f be t
theorem Qw.mono {n n1 n2 k m : Nat} {cs cs1 cs2 : List (List Nat)} {q : List Nat} {f : (Nat → Bool) → Nat → Bool} (h : Qw n cs n1 cs1 k m q f) (hn : n1 ≤ n2) (hs : ∀ c, c ∈ cs1 → c ∈ cs2) : Qw n cs n2 cs2 k m q f :=
  ⟨Nat.le_trans h.le hn, fun c hc => hs c (h.sub c hc), fun t h1 h2 => Nat.lt_of_lt_of_le (h.fit t h1 h2) hn, fun be hm t h1 h2 => h.val be (hm.sub hs) t h1 h2⟩
theorem Qw.rw {n n1 m : Nat} {cs cs1 : List (List Nat)} {q : List Nat} {f : (Nat → Bool) → Nat → Bool} (h : Qw n cs n1 cs1 0 m q f) : Rw n cs n1 cs1 m q f := ⟨h.le, h.sub, fun t ht => h.fit t (by omega) ht, fun be hm t ht => h.val be hm t (by omega) ht⟩
theorem Qw.put {n n1 n2 k m x : Nat} {cs cs1 cs2 : List (List Nat)} {q : List Nat} {f : (Nat → Bool) → Nat → Bool} (h : Qw n cs n1 cs1 (k + 1) m q f) (hn : n1 ≤ n2) (hs : ∀ c, c ∈ cs1 → c ∈ cs2) (hq : q.length = m) (hx : x / 2 < n2) (hv : ∀ be, Mod cs2 be → lt_ be x = f be k) : Qw n cs n2 cs2 k m (q.set k x) f where
  le := Nat.le_trans h.le hn
  sub := fun c hc => hs c (h.sub c hc)
  fit := fun t h1 h2 => by
    by_cases e : t = k
    · subst e; rw [setN _ _ _ _ (by omega), if_pos rfl]; exact hx
    · by_cases hk : k < q.length
      · rw [setN _ _ _ _ hk, if_neg e]; exact Nat.lt_of_lt_of_le (h.fit t (by omega) h2) hn
      · omega
  val := fun be hm t h1 h2 => by
    by_cases e : t = k
    · subst e; rw [setN _ _ _ _ (by omega), if_pos rfl]; exact hv be hm
    · by_cases hk : k < q.length
      · rw [setN _ _ _ _ hk, if_neg e]; exact h.val be (hm.sub hs) t (by omega) h2
      · omega
theorem getD_cons (x : Nat) (l : List Nat) (t : Nat) : (x :: l).getD t 0 = if t = 0 then x else l.getD (t - 1) 0 := by
  cases t with
  | zero => rfl
  | succ t => rw [if_neg (by omega)]; rfl
/-- The word that b's row says, with one bit more. -/
theorem wide_val {be : Nat → Bool} {b : List Nat} {mm : Nat} (hb : b.length = mm) (h1 : lt_ be (GateP.nt 0) = false) : ∀ t, t < mm + 1 → lt_ be ((b.take mm ++ [GateP.nt 0]).getD t 0) = (bval mm (fun j => lt_ be (b.getD j 0))).testBit t := fun t ht => by
  rw [getD_app, List.length_take, show min mm b.length = mm by omega, bval_bit]
  split
  · rename_i q; rw [getD_take _ _ _ q, decide_eq_true q, Bool.true_and]
  · rename_i q
    obtain rfl : t = mm := by omega
    rw [Nat.sub_self, decide_eq_false q]
    exact h1
theorem wide_fit {b : List Nat} {mm n : Nat} (hb : b.length = mm) (hf : ∀ j, j < mm → b.getD j 0 / 2 < n) (hn : 0 < n) : ∀ t, t < mm + 1 → (b.take mm ++ [GateP.nt 0]).getD t 0 / 2 < n := fun t ht => by
  rw [getD_app, List.length_take, show min mm b.length = mm by omega]
  split
  · rename_i q; rw [getD_take _ _ _ q]; exact hf t q
  · rename_i q
    obtain rfl : t = mm := by omega
    rw [Nat.sub_self]
    show GateP.nt 0 / 2 < n
    rw [nt_div]; omega
theorem cons_fit {o : List Nat} {x mm n n1 : Nat} (hx : x / 2 < n) (hn : n ≤ n1) (hf : ∀ j, j < mm + 1 → o.getD j 0 / 2 < n1) : ∀ t, t < mm + 1 → (x :: o.take mm).getD t 0 / 2 < n1 := fun t ht => by
  rw [getD_cons]
  split
  · omega
  · rw [getD_take _ _ _ (by omega)]; exact hf _ (by omega)
theorem rest_round {n n1 n2 n3 n4 j mm x : Nat} {cs cs1 cs2 cs3 cs4 : List (List Nat)} {a b o y s r : List Nat}
    (h : Rw n cs n1 cs1 (mm + 1) o (fun be t => (remN (bval mm (fun j => lt_ be (a.getD j 0))) (bval mm (fun j => lt_ be (b.getD j 0))) (j + 1)).testBit t))
    (hy : ∀ be, Mod cs1 be → ∀ t, t < mm + 1 → lt_ be (y.getD t 0) = (bval mm (fun j => lt_ be (b.getD j 0))).testBit t)
    (hl : GR n1 cs1 n2 cs2 x (fun be => lsB (fun t => lt_ be ((a.getD j 0 :: o.take mm).getD t 0)) (fun t => lt_ be (y.getD t 0)) (mm + 1)))
    (hs : Rw n2 cs2 n3 cs3 (mm + 1) s (fun be t => sumB (fun t => lt_ be ((a.getD j 0 :: o.take mm).getD t 0)) (fun t => !lt_ be (y.getD t 0)) true t))
    (hr : Rw n3 cs3 n4 cs4 (mm + 1) r (fun be t => ite_ (lt_ be (GateP.nt x)) (lt_ be (s.getD t 0)) (lt_ be ((a.getD j 0 :: o.take mm).getD t 0)))) (hj : j < mm) :
    Rw n cs n4 cs4 (mm + 1) r (fun be t => (remN (bval mm (fun j => lt_ be (a.getD j 0))) (bval mm (fun j => lt_ be (b.getD j 0))) j).testBit t) ∧
      ∀ be, Mod cs4 be → lt_ be (GateP.nt x) = quoB (bval mm (fun j => lt_ be (a.getD j 0))) (bval mm (fun j => lt_ be (b.getD j 0))) j := by
  have key : ∀ be, Mod cs4 be → (lt_ be (GateP.nt x) = quoB (bval mm (fun j => lt_ be (a.getD j 0))) (bval mm (fun j => lt_ be (b.getD j 0))) j ∧ ∀ t, t < mm + 1 → lt_ be (r.getD t 0) = (remN (bval mm (fun j => lt_ be (a.getD j 0))) (bval mm (fun j => lt_ be (b.getD j 0))) j).testBit t) := fun be hm => by
    have m3 := hm.sub hr.sub
    have m2 := m3.sub hs.sub
    have m1 := m2.sub hl.2.1
    rw [lt_nt]
    refine div_round (A := fun j => lt_ be (a.getD j 0)) (B := fun j => lt_ be (b.getD j 0)) (O := fun t => lt_ be (o.getD t 0)) (X := fun t => lt_ be ((a.getD j 0 :: o.take mm).getD t 0)) (Y := fun t => lt_ be (y.getD t 0)) (S := fun t => lt_ be (s.getD t 0)) (R := fun t => lt_ be (r.getD t 0)) hj
      (fun t ht => h.val be m1 t ht) (fun t ht => ?_) (hy be m1) (hl.2.2.2 be m2) (fun t ht => hs.val be m3 t ht) (fun t ht => ?_)
    · show lt_ be ((a.getD j 0 :: o.take mm).getD t 0) = _
      rw [getD_cons]
      by_cases e : t = 0
      · rw [if_pos e, if_pos e]
      · rw [if_neg e, if_neg e, getD_take _ _ _ (by omega)]
    · show lt_ be (r.getD t 0) = _
      rw [hr.val be hm t ht, lt_nt]
  exact ⟨⟨by have := h.le; have := hl.1; have := hs.le; have := hr.le; omega, fun c hc => hr.sub c (hs.sub c (hl.2.1 c (h.sub c hc))), hr.fit, fun be hm t ht => (key be hm).2 t ht⟩, fun be hm => (key be hm).1⟩
end Go.Proofs.YtnlecdpiccgdpaaV

set_option linter.unusedVariables false
set_option linter.unusedSimpArgs false
namespace Go.Proofs.YtnlecdpiccgdpaaV
open Go Go.RowKit Go.Proofs

/-- What comes of sum. -/
def SumR (F : Nat → Prop) (p n : Nat) (cs : List (List Nat)) (I : Nat → Prop) (w : World) (m : Nat) (f : (Nat → Bool) → Nat → Bool) (v : Value) (w' : World) : Prop :=
  ∃ F' n' cs' g r y, v = .tuple #[.slice (some ⟨g, 0, none⟩) m m, .int .i64 ((y : Nat) : Int)] ∧ r.length = m ∧ RdX F' w' m (some ⟨g, 0, none⟩) (nats r) ∧ w.heap.size ≤ g ∧ GObj F' w' p n' cs' I ∧ Mv F F' w w' ∧ Rw n cs n' cs' m r f ∧ n' ≤ n + 5 * m

set_option maxRecDepth 100000 in
theorem sum_ok (F : Nat → Prop) (p n mm ca cb : Nat) (A B : Option Addr) (a b : List Nat) (c : Nat) (cs : List (List Nat)) (I : Nat → Prop) (w : World) (hG : GObj F w p n cs I) (hA : RdX F w mm A (nats a)) (hB : RdX F w mm B (nats b)) (hfa : ∀ j, j < mm → a.getD j 0 / 2 < n) (hfb : ∀ j, j < mm → b.getD j 0 / 2 < n) (hm : 0 < mm) (hm2 : mm ≤ 1000) (hn : n ≤ 60000000000) (hc : c / 2 < n) : Ret Try.prog 71 [.pointer (some ⟨p, 0, none⟩), .slice A mm ca, .slice B mm cb, .int .i64 ((c : Nat) : Int)] w fun v w' => SumR F p n cs I w mm (fun be j => sumB (fun j => lt_ be (a.getD j 0)) (fun j => lt_ be (b.getD j 0)) (lt_ be c) j) v w' := by
  have hMv := Mv.refl F w
  have hla : a.length = mm := by have := hA.1.1; rw [nats_length] at this; omega
  have hlb : b.length = mm := by have := hB.1.1; rw [nats_length] at this; omega
  have hAr := hA.1
  have hBr := hB.1
  have lt_hA := hA.lt
  have lt_hB := hB.lt
  have ge_hA : ∀ c, blkOf A = some c → 0 ≤ c := fun c _ => Nat.zero_le c
  have ge_hB : ∀ c, blkOf B = some c → 0 ≤ c := fun c _ => Nat.zero_le c
  refine enter Try.func71 rfl rfl ?_
  refine W_seq ?_
  refine W_region (by kernel_rfl) ?_
  refine sg [(8, .slice none 0 0), (9, .int .i64 0)] (by kernel_rfl) ?_
  refine op_nil ?_
  refine W_seq ?_
  refine W_region (by kernel_rfl) ?_
  refine sg [(13, .slice A mm ca), (14, .int .i64 (mm : Int))] (by kernel_rfl) ?_
  have hlt_ := hG.1.lt
  have hz5 := hMv.1.size
  refine st (by rfl) (S_make 27 3 (.int .i64 0) 1 8 (k1 := .i64) (k2 := .i64) (l := (mm : Int)) (c := (mm : Int)) (by kernel_rfl) (by kernel_rfl) (by kernel_rfl) (by kernel_rfl) (by omega) (by omega) (by omega) (by omega) fun w1 hT2 hs3 hB4 => ?_)
  replace hB4 : Blk w1 (w.heap.size) 3 (nats (List.replicate ((mm : Int).toNat) 0) ++ []) := by rw [← mz_nats]; exact hB4
  have hG := hG.tch0 hT2
  have hMv := hMv.then0 hT2
  have hA := hA.tch0 hT2
  have hAr := hA.1
  have hB := hB.tch0 hT2
  have hBr := hB.1
  have nF_hB4 : ¬ F (w.heap.size) := fun e => by have := hlt_ _ e; omega
  refine sg [(10, .slice (some ⟨w.heap.size, 0, none⟩) ((mm : Int).toNat) ((mm : Int).toNat))] (by kernel_rfl) ?_
  refine op_nil ?_
  refine W_seq ?_
  refine W_seq ?_
  refine W_region (by kernel_rfl) ?_
  refine sg [(16, .slice A mm ca), (17, .int .i64 (mm : Int)), (18, .int .i64 0)] (by kernel_rfl) ?_
  refine op_nil ?_
  refine W_block ?_
  refine W_loop (fun m ρ w' => ∃ (F1 : Nat → Prop) (n1 : Nat) (cs1 : List (List Nat)) (o : List Nat) (cr i : Nat) (ρ0 : Env), ρ = updL ρ0 [(0, .pointer (some ⟨p, 0, none⟩)), (1, .slice A mm ca), (2, .slice B mm cb), (3, .int .i64 ((cr : Nat) : Int)), (8, .slice none 0 0), (9, .int .i64 0), (10, .slice (some ⟨w.heap.size, 0, none⟩) ((mm : Int).toNat) ((mm : Int).toNat)), (17, .int .i64 (mm : Int)), (18, .int .i64 ((i : Nat) : Int))] ∧ (i ≤ mm) ∧ (o.length = mm) ∧ (Rw n cs n1 cs1 i o (fun be j => sumB (fun j => lt_ be (a.getD j 0)) (fun j => lt_ be (b.getD j 0)) (lt_ be c) j)) ∧ (n1 ≤ n + 5 * i) ∧ (¬ F1 (w.heap.size)) ∧ (Lw n1 cs1 cr (fun be => cryB (fun j => lt_ be (a.getD j 0)) (fun j => lt_ be (b.getD j 0)) (lt_ be c) i)) ∧ GObj F1 w' p n1 cs1 I ∧ Mv F F1 w w' ∧ RdX F1 w' mm A (nats a) ∧ RdW w' 1 mm A (nats a) ∧ RdX F1 w' mm B (nats b) ∧ RdW w' 1 mm B (nats b) ∧ Blk w' (w.heap.size) 3 (nats o ++ []) ∧ m = mm - i) (m := mm - 0) ?_ ?_
  · refine ⟨F, n, cs, List.replicate mm 0, c, 0, _, updL_self (by kernel_rfl), by omega, by simp, Rw.zero _ _ _ _, by omega, nF_hB4, ⟨hc, fun be hm => rfl⟩, hG, hMv, hA, hAr, hB, hBr, hB4, rfl⟩
  · rintro m ρ w6 ⟨F1, n1, cs1, o, cr, i, ρ, rfl, hi, hol, hrw, hd, nF_hOut, hcr, hG, hMv, hA, hAr, hB, hBr, hOut, rfl⟩
    have hle_ := hrw.le
    have fa := fun q : i < mm => hfa i q
    have fb := fun q : i < mm => hfb i q
    have hpos := hG.2.pos
    have hcf := hcr.1
    refine W_seq ?_
    refine W_region (by kernel_rfl) ?_
    refine sg [(19, .bool (decide (((i : Nat) : Int) < (mm : Int))))] (by kernel_rfl) ?_
    refine op_nil ?_
    refine W_seq ?_
    refine W_cond (decide (((i : Nat) : Int) < (mm : Int))) (by kernel_rfl) (by kernel_rfl) (fun hc7 => ?_) (fun hc7 => ?_)
    · replace hc7 : ((i : Nat) : Int) < (mm : Int) := (of_decide_eq_true hc7)
      refine W_skip ?_
      refine W_seq ?_
      refine W_block ?_
      refine W_seq ?_
      refine W_region (by kernel_rfl) ?_
      refine sg [(20, .int .i64 ((i : Nat) : Int)), (11, .int .i64 ((i : Nat) : Int))] (by kernel_rfl) ?_
      refine op_nil ?_
      refine W_seq ?_
      refine W_draw (fun w' => RdW w' 1 mm A (nats a) ∧ RdW w' 1 mm B (nats b)) (by kernel_rfl) (by kernel_rfl) (by kernel_rfl) fun w8 hT9 hh10 => ?_
      have hG := hG.tch0 hT9
      have hMv := hMv.then0 hT9
      have hA := hA.tch0 hT9
      have hAr := hA.1
      have hB := hB.tch0 hT9
      have hBr := hB.1
      have hOut := hOut.tch0 hT9
      refine dtk [0, 1, 2, 5, 6] #[true, true, true, false, false, true, true, false, false, false, false] [(21, .pointer (some ⟨p, 0, none⟩)), (22, .slice A mm ca), (23, .int .i64 ((i : Nat) : Int)), (26, .slice B mm cb), (27, .int .i64 ((i : Nat) : Int))] ⟨hAr, hBr⟩ (by kernel_rfl) ?_
      refine d_val (v := ptrAt A i) 3 (by rfl) (by kernel_rfl) (by kernel_rfl) (by kernel_rfl) (fun w' hs => by obtain ⟨hAr, hBr⟩ := hs; exact R_indexRd1 (len := mm) (cap := ca) (k := .i64) (i := ((i : Nat) : Int)) (e := 3) i hAr (by kernel_rfl) (by kernel_rfl) (by kernel_rfl) (by kernel_rfl) rfl (by omega)) ⟨hAr, hBr⟩ ?_
      refine d_val (v := .int .i64 ((a.getD i 0 : Nat) : Int)) 4 (by rfl) (by kernel_rfl) (by kernel_rfl) (by kernel_rfl) (fun w' hs => by obtain ⟨hAr, hBr⟩ := hs; exact R_loadRd (v := .int .i64 ((a.getD i 0 : Nat) : Int)) hAr (by omega) (by kernel_rfl) (by kernel_rfl) (nats_at (l := a) (by omega))) ⟨hAr, hBr⟩ ?_
      refine d_val (v := ptrAt B i) 7 (by rfl) (by kernel_rfl) (by kernel_rfl) (by kernel_rfl) (fun w' hs => by obtain ⟨hAr, hBr⟩ := hs; exact R_indexRd1 (len := mm) (cap := cb) (k := .i64) (i := ((i : Nat) : Int)) (e := 3) i hBr (by kernel_rfl) (by kernel_rfl) (by kernel_rfl) (by kernel_rfl) rfl (by omega)) ⟨hAr, hBr⟩ ?_
      refine d_val (v := .int .i64 ((b.getD i 0 : Nat) : Int)) 8 (by rfl) (by kernel_rfl) (by kernel_rfl) (by kernel_rfl) (fun w' hs => by obtain ⟨hAr, hBr⟩ := hs; exact R_loadRd (v := .int .i64 ((b.getD i 0 : Nat) : Int)) hBr (by omega) (by kernel_rfl) (by kernel_rfl) (nats_at (l := b) (by omega))) ⟨hAr, hBr⟩ ?_
      have lt19 := hOut.lt
      refine d_one 9 (by kernel_rfl) (by rfl) (by kernel_rfl) (S_call (args := [.pointer (some ⟨p, 0, none⟩), .int .i64 ((a.getD i 0 : Nat) : Int), .int .i64 ((b.getD i 0 : Nat) : Int)]) (by kernel_rfl) (xor_ok F1 p n1 (a.getD i 0) (b.getD i 0) cs1 I _ hG (by omega) (by omega) (by omega)) ?_)
      rintro _ w11 ⟨F12, n13, cs14, x15, rfl, hG, hm16, hr17, hd18⟩
      have hMv := hMv.trans hm16
      have hA := hA.mv hm16
      have hAr := hA.1
      have hB := hB.mv hm16
      have hBr := hB.1
      have hOut := hOut.tch hm16.1 nF_hOut
      have hxb20 := hr17.2.2.1
      have hle21 := hr17.1
      replace nF_hOut : ¬ F12 (w.heap.size) := fun e => (hm16.2 _ e).elim nF_hOut (fun q => by omega)
      refine ⟨⟨hAr, hBr⟩, ?_⟩
      refine dtk [10] #[true, true, true, true, true, true, true, true, true, true, true] [(12, .int .i64 ((x15 : Nat) : Int))] ⟨hAr, hBr⟩ (by kernel_rfl) ?_
      refine d_done (by kernel_rfl) ?_
      refine W_seq ?_
      refine W_fg [(0, .pointer (some ⟨p, 0, none⟩)), (1, .slice A mm ca), (2, .slice B mm cb), (3, .int .i64 ((cr : Nat) : Int)), (8, .slice none 0 0), (9, .int .i64 0), (10, .slice (some ⟨w.heap.size, 0, none⟩) ((mm : Int).toNat) ((mm : Int).toNat)), (11, .int .i64 ((i : Nat) : Int)), (12, .int .i64 ((x15 : Nat) : Int)), (17, .int .i64 (mm : Int)), (18, .int .i64 ((i : Nat) : Int)), (19, .bool (decide (((i : Nat) : Int) < (mm : Int))))] (by kernel_rfl) fun ρ => ?_
      refine W_region (by kernel_rfl) ?_
      refine sg [(31, .slice (some ⟨w.heap.size, 0, none⟩) ((mm : Int).toNat) ((mm : Int).toNat)), (32, .int .i64 ((i : Nat) : Int)), (33, .pointer (some ⟨p, 0, none⟩)), (34, .int .i64 ((x15 : Nat) : Int)), (35, .int .i64 ((cr : Nat) : Int))] (by kernel_rfl) ?_
      have lt30 := hOut.lt
      refine st (by rfl) (S_call (args := [.pointer (some ⟨p, 0, none⟩), .int .i64 ((x15 : Nat) : Int), .int .i64 ((cr : Nat) : Int)]) (by kernel_rfl) (xor_ok F12 p n13 x15 cr cs14 I _ hG (by omega) (by omega) (by omega)) ?_)
      rintro _ w22 ⟨F23, n24, cs25, x26, rfl, hG, hm27, hr28, hd29⟩
      have hMv := hMv.trans hm27
      have hA := hA.mv hm27
      have hAr := hA.1
      have hB := hB.mv hm27
      have hBr := hB.1
      have hOut := hOut.tch hm27.1 nF_hOut
      have hxb31 := hr28.2.2.1
      have hle32 := hr28.1
      replace nF_hOut : ¬ F23 (w.heap.size) := fun e => (hm27.2 _ e).elim nF_hOut (fun q => by omega)
      refine stv (v := .pointer (some ⟨w.heap.size, i, none⟩)) (by rfl) (R_index0 (b := w.heap.size) (len := (mm : Int).toNat) (cap := (mm : Int).toNat) (k := .i64) (i := ((i : Nat) : Int)) (e := 3) i (by kernel_rfl) (by kernel_rfl) (by kernel_rfl) (by kernel_rfl) rfl (by first | omega | (simp only [List.length_set, List.length_map]; omega))) ?_
      refine st (by rfl) (S_store (b := w.heap.size) (j := i) (v := .int .i64 ((x26 : Nat) : Int)) (by kernel_rfl) (by kernel_rfl) (by kernel_rfl) (by rfl) hOut (by rw [List.length_append, nats_length]; (first | omega | (simp only [List.length_set, List.length_map]; omega))) fun w33 hT34 hs35 hOut' => ?_)
      have hG := hG.tchS hT34 (fun c e q => by cases e; exact nF_hOut q)
      have hMv := hMv.newst hT34 (by omega)
      have hA := hA.st hT34 (fun c hc e => by have h1 := lt_hA c hc; have h2 := ge_hA c hc; have : c = w.heap.size := e; omega)
      have hAr := hA.1
      have hB := hB.st hT34 (fun c hc e => by have h1 := lt_hB c hc; have h2 := ge_hB c hc; have : c = w.heap.size := e; omega)
      have hBr := hB.1
      replace hOut : Blk w33 (w.heap.size) 3 (nats (o.set i x26) ++ []) := (nats_setP (l := o) (sp := []) (i := i) x26 (by first | omega | (simp only [List.length_set, List.length_map]; omega))) ▸ hOut'
      refine op_nil ?_
      refine W_draw (fun w' => RdW w' 1 mm A (nats a) ∧ RdW w' 1 mm B (nats b)) (by kernel_rfl) (by kernel_rfl) (by kernel_rfl) fun w36 hT37 hh38 => ?_
      have hG := hG.tch0 hT37
      have hMv := hMv.then0 hT37
      have hA := hA.tch0 hT37
      have hAr := hA.1
      have hB := hB.tch0 hT37
      have hBr := hB.1
      have hOut := hOut.tch0 hT37
      refine dtk [0, 1, 2, 3, 6, 7, 11, 12, 13] #[true, true, true, true, false, false, true, true, false, false, false, true, true, true, false, false, false] [(38, .pointer (some ⟨p, 0, none⟩)), (39, .pointer (some ⟨p, 0, none⟩)), (40, .slice A mm ca), (41, .int .i64 ((i : Nat) : Int)), (44, .slice B mm cb), (45, .int .i64 ((i : Nat) : Int)), (49, .pointer (some ⟨p, 0, none⟩)), (50, .int .i64 ((x15 : Nat) : Int)), (51, .int .i64 ((cr : Nat) : Int))] ⟨hAr, hBr⟩ (by kernel_rfl) ?_
      refine d_val (v := ptrAt A i) 4 (by rfl) (by kernel_rfl) (by kernel_rfl) (by kernel_rfl) (fun w' hs => by obtain ⟨hAr, hBr⟩ := hs; exact R_indexRd1 (len := mm) (cap := ca) (k := .i64) (i := ((i : Nat) : Int)) (e := 3) i hAr (by kernel_rfl) (by kernel_rfl) (by kernel_rfl) (by kernel_rfl) rfl (by omega)) ⟨hAr, hBr⟩ ?_
      refine d_val (v := .int .i64 ((a.getD i 0 : Nat) : Int)) 5 (by rfl) (by kernel_rfl) (by kernel_rfl) (by kernel_rfl) (fun w' hs => by obtain ⟨hAr, hBr⟩ := hs; exact R_loadRd (v := .int .i64 ((a.getD i 0 : Nat) : Int)) hAr (by omega) (by kernel_rfl) (by kernel_rfl) (nats_at (l := a) (by omega))) ⟨hAr, hBr⟩ ?_
      refine d_val (v := ptrAt B i) 8 (by rfl) (by kernel_rfl) (by kernel_rfl) (by kernel_rfl) (fun w' hs => by obtain ⟨hAr, hBr⟩ := hs; exact R_indexRd1 (len := mm) (cap := cb) (k := .i64) (i := ((i : Nat) : Int)) (e := 3) i hBr (by kernel_rfl) (by kernel_rfl) (by kernel_rfl) (by kernel_rfl) rfl (by omega)) ⟨hAr, hBr⟩ ?_
      refine d_val (v := .int .i64 ((b.getD i 0 : Nat) : Int)) 9 (by rfl) (by kernel_rfl) (by kernel_rfl) (by kernel_rfl) (fun w' hs => by obtain ⟨hAr, hBr⟩ := hs; exact R_loadRd (v := .int .i64 ((b.getD i 0 : Nat) : Int)) hBr (by omega) (by kernel_rfl) (by kernel_rfl) (nats_at (l := b) (by omega))) ⟨hAr, hBr⟩ ?_
      have lt47 := hOut.lt
      refine d_one 10 (by kernel_rfl) (by rfl) (by kernel_rfl) (S_call (args := [.pointer (some ⟨p, 0, none⟩), .int .i64 ((a.getD i 0 : Nat) : Int), .int .i64 ((b.getD i 0 : Nat) : Int)]) (by kernel_rfl) (and_ok F23 p n24 (a.getD i 0) (b.getD i 0) cs25 I _ hG (by omega) (by omega) (by omega)) ?_)
      rintro _ w39 ⟨F40, n41, cs42, x43, rfl, hG, hm44, hr45, hd46⟩
      have hMv := hMv.trans hm44
      have hA := hA.mv hm44
      have hAr := hA.1
      have hB := hB.mv hm44
      have hBr := hB.1
      have hOut := hOut.tch hm44.1 nF_hOut
      have hxb48 := hr45.2.2.1
      have hle49 := hr45.1
      replace nF_hOut : ¬ F40 (w.heap.size) := fun e => (hm44.2 _ e).elim nF_hOut (fun q => by omega)
      refine ⟨⟨hAr, hBr⟩, ?_⟩
      have lt58 := hOut.lt
      refine d_one 14 (by kernel_rfl) (by rfl) (by kernel_rfl) (S_call (args := [.pointer (some ⟨p, 0, none⟩), .int .i64 ((x15 : Nat) : Int), .int .i64 ((cr : Nat) : Int)]) (by kernel_rfl) (and_ok F40 p n41 x15 cr cs42 I _ hG (by omega) (by omega) (by omega)) ?_)
      rintro _ w50 ⟨F51, n52, cs53, x54, rfl, hG, hm55, hr56, hd57⟩
      have hMv := hMv.trans hm55
      have hA := hA.mv hm55
      have hAr := hA.1
      have hB := hB.mv hm55
      have hBr := hB.1
      have hOut := hOut.tch hm55.1 nF_hOut
      have hxb59 := hr56.2.2.1
      have hle60 := hr56.1
      replace nF_hOut : ¬ F51 (w.heap.size) := fun e => (hm55.2 _ e).elim nF_hOut (fun q => by omega)
      refine ⟨⟨hAr, hBr⟩, ?_⟩
      have lt69 := hOut.lt
      refine d_one 15 (by kernel_rfl) (by rfl) (by kernel_rfl) (S_call (args := [.pointer (some ⟨p, 0, none⟩), .int .i64 ((x43 : Nat) : Int), .int .i64 ((x54 : Nat) : Int)]) (by kernel_rfl) (or_ok F51 p n52 x43 x54 cs53 I _ hG (by omega) (by omega) (by omega)) ?_)
      rintro _ w61 ⟨F62, n63, cs64, x65, rfl, hG, hm66, hr67, hd68⟩
      have hMv := hMv.trans hm66
      have hA := hA.mv hm66
      have hAr := hA.1
      have hB := hB.mv hm66
      have hBr := hB.1
      have hOut := hOut.tch hm66.1 nF_hOut
      have hxb70 := hr67.2.2.1
      have hle71 := hr67.1
      replace nF_hOut : ¬ F62 (w.heap.size) := fun e => (hm66.2 _ e).elim nF_hOut (fun q => by omega)
      refine ⟨⟨hAr, hBr⟩, ?_⟩
      refine dtk [16] #[true, true, true, true, true, true, true, true, true, true, true, true, true, true, true, true, true] [(3, .int .i64 ((x65 : Nat) : Int))] ⟨hAr, hBr⟩ (by kernel_rfl) ?_
      refine d_done (by kernel_rfl) ?_
      refine W_fg [(0, .pointer (some ⟨p, 0, none⟩)), (1, .slice A mm ca), (2, .slice B mm cb), (3, .int .i64 ((x65 : Nat) : Int)), (8, .slice none 0 0), (9, .int .i64 0), (10, .slice (some ⟨w.heap.size, 0, none⟩) ((mm : Int).toNat) ((mm : Int).toNat)), (11, .int .i64 ((i : Nat) : Int)), (12, .int .i64 ((x15 : Nat) : Int)), (17, .int .i64 (mm : Int)), (18, .int .i64 ((i : Nat) : Int)), (19, .bool (decide (((i : Nat) : Int) < (mm : Int))))] (by kernel_rfl) fun ρ => ?_
      refine W_region (by kernel_rfl) ?_
      refine sg [(54, .int .i64 (IntKind.i64.wrap (((i : Nat) : Int) + 1)))] (by kernel_rfl) ?_
      rw [show IntKind.i64.wrap (((i : Nat) : Int) + 1) = ((i : Nat) : Int) + 1 from wrap_i64 (by omega) (by omega)]
      refine fixR (y := ((i + 1 : Nat) : Int)) (by omega) ?_
      refine sg [(18, .int .i64 ((i + 1 : Nat) : Int))] (by kernel_rfl) ?_
      refine op_nil ?_
      refine ⟨_, ?_, F62, n63, cs64, o.set i x26, x65, i + 1, _, updL_self (by kernel_rfl), ?_, by rw [List.length_set]; exact hol, ((((hrw.far hr17).step hr28 (by omega) (fun be hm => by show (lt_ be x15 != lt_ be cr) = _; rw [hr17.2.2.2 be (hm.sub hr28.2.1), hcr.2 be ((hm.sub hr28.2.1).sub hr17.2.1)]; rfl)).far hr45).far hr56).far hr67, by omega, nF_hOut, (Lw.of hr67).eq (fun be hm => by
                    have m4 := hm.sub hr67.2.1
                    have m3 := m4.sub hr56.2.1
                    have m2 := m3.sub hr45.2.1
                    have m1 := m2.sub hr28.2.1
                    have m0 := m1.sub hr17.2.1
                    show (lt_ be x43 || lt_ be x54) = _
                    rw [show lt_ be x54 = (lt_ be x15 && lt_ be cr) from hr56.2.2.2 be m4, show lt_ be x43 = (lt_ be (a.getD i 0) && lt_ be (b.getD i 0)) from hr45.2.2.2 be m3, show lt_ be x15 = (lt_ be (a.getD i 0) != lt_ be (b.getD i 0)) from hr17.2.2.2 be m1, hcr.2 be m0]; rfl), hG, hMv, hA, hAr, hB, hBr, hOut, rfl⟩
      · omega
      · omega
    · replace hc7 : (mm : Int) ≤ ((i : Nat) : Int) := (Int.not_lt.1 (of_decide_eq_false hc7))
      refine W_exit ?_
      refine X_hit ?_
      refine W_seq ?_
      refine W_region (by kernel_rfl) ?_
      refine sg [(55, .slice (some ⟨w.heap.size, 0, none⟩) ((mm : Int).toNat) ((mm : Int).toNat)), (56, .int .i64 ((cr : Nat) : Int)), (8, .slice (some ⟨w.heap.size, 0, none⟩) ((mm : Int).toNat) ((mm : Int).toNat)), (9, .int .i64 ((cr : Nat) : Int))] (by kernel_rfl) ?_
      refine op_nil ?_
      refine W_ret ?_
      exact ⟨_, Res_of (v := .tuple #[.slice (some ⟨w.heap.size, 0, none⟩) ((mm : Int).toNat) ((mm : Int).toNat), .int .i64 ((cr : Nat) : Int)]) (by kernel_rfl), ⟨F1, n1, cs1, w.heap.size, o, _, rfl, hol, RdX.ofP hOut (by rw [nats_length]; exact hol) (by omega) nF_hOut, by omega, hG, hMv, (show i = mm by omega) ▸ hrw, by omega⟩⟩

set_option maxRecDepth 100000 in
theorem nots_ok (mm ca : Nat) (A : Option Addr) (a : List Nat) (w : World) (hA : RdW w 1 mm A (nats a)) (hm2 : mm ≤ 1000) (hsm : ∀ j, j < mm → a.getD j 0 < 4611686018427387904) : Ret Try.prog 72 [.slice A mm ca] w fun v w' => ∃ g r, v = .slice (some ⟨g, 0, none⟩) mm mm ∧ r.length = mm ∧ Blk w' g 3 (nats r ++ []) ∧ w.heap.size ≤ g ∧ (∀ j, j < mm → r.getD j 0 = GateP.nt (a.getD j 0)) ∧ Tch N0 w w' := by
  have hAc := hA
  have hla : a.length = mm := by have := hA.1; rw [nats_length] at this; omega
  refine enter Try.func72 rfl rfl ?_
  refine W_seq ?_
  refine W_region (by kernel_rfl) ?_
  refine sg [(2, .slice none 0 0)] (by kernel_rfl) ?_
  refine op_nil ?_
  refine W_seq ?_
  refine W_region (by kernel_rfl) ?_
  refine sg [(6, .slice A mm ca), (7, .int .i64 (mm : Int))] (by kernel_rfl) ?_
  refine st (by rfl) (S_make 27 3 (.int .i64 0) 1 8 (k1 := .i64) (k2 := .i64) (l := (mm : Int)) (c := (mm : Int)) (by kernel_rfl) (by kernel_rfl) (by kernel_rfl) (by kernel_rfl) (by omega) (by omega) (by omega) (by omega) fun w1 hT2 hs3 hB4 => ?_)
  replace hB4 : Blk w1 (w.heap.size) 3 (nats (List.replicate ((mm : Int).toNat) 0) ++ []) := by rw [← mz_nats]; exact hB4
  have hT0 := hT2
  have hAc := hA.tch0 hT0
  refine sg [(3, .slice (some ⟨w.heap.size, 0, none⟩) ((mm : Int).toNat) ((mm : Int).toNat))] (by kernel_rfl) ?_
  refine op_nil ?_
  refine W_seq ?_
  refine W_seq ?_
  refine W_region (by kernel_rfl) ?_
  refine sg [(9, .slice A mm ca), (10, .int .i64 (mm : Int)), (11, .int .i64 0)] (by kernel_rfl) ?_
  refine op_nil ?_
  refine W_block ?_
  refine W_loop (fun m ρ w' => ∃ (o : List Nat) (i : Nat) (ρ0 : Env), ρ = updL ρ0 [(0, .slice A mm ca), (2, .slice none 0 0), (3, .slice (some ⟨w.heap.size, 0, none⟩) ((mm : Int).toNat) ((mm : Int).toNat)), (9, .slice A mm ca), (10, .int .i64 (mm : Int)), (11, .int .i64 ((i : Nat) : Int))] ∧ (i ≤ mm) ∧ (o.length = mm) ∧ (∀ j, j < i → o.getD j 0 = GateP.nt (a.getD j 0)) ∧ Tch N0 w w' ∧ RdW w' 1 mm A (nats a) ∧ Blk w' (w.heap.size) 3 (nats o ++ []) ∧ m = mm - i) (m := mm - 0) ?_ ?_
  · refine ⟨List.replicate mm 0, 0, _, updL_self (by kernel_rfl), by omega, by simp, (fun j h => by omega), hT0, hAc, hB4, rfl⟩
  · rintro m ρ w5 ⟨o, i, ρ, rfl, hi, hol, hmv, hT0, hAc, hOut, rfl⟩
    have hsi := fun q : i < mm => hsm i q
    refine W_seq ?_
    refine W_region (by kernel_rfl) ?_
    refine sg [(12, .bool (decide (((i : Nat) : Int) < (mm : Int))))] (by kernel_rfl) ?_
    refine op_nil ?_
    refine W_seq ?_
    refine W_cond (decide (((i : Nat) : Int) < (mm : Int))) (by kernel_rfl) (by kernel_rfl) (fun hc6 => ?_) (fun hc6 => ?_)
    · replace hc6 : ((i : Nat) : Int) < (mm : Int) := (of_decide_eq_true hc6)
      refine W_skip ?_
      refine W_seq ?_
      refine W_block ?_
      refine W_seq ?_
      refine W_region (by kernel_rfl) ?_
      refine sg [(13, .int .i64 ((i : Nat) : Int))] (by kernel_rfl) ?_
      refine stv (v := ptrAt A i) (by rfl) (R_indexRd1 (len := mm) (cap := ca) (k := .i64) (i := ((i : Nat) : Int)) (e := 3) i hAc (by kernel_rfl) (by kernel_rfl) (by kernel_rfl) (by kernel_rfl) rfl (by omega)) ?_
      refine stv (v := .int .i64 ((a.getD i 0 : Nat) : Int)) (by rfl) (R_loadRd (v := .int .i64 ((a.getD i 0 : Nat) : Int)) hAc (by omega) (by kernel_rfl) (by kernel_rfl) (nats_at (l := a) (by omega))) ?_
      refine sg [(4, .int .i64 ((i : Nat) : Int)), (5, .int .i64 ((a.getD i 0 : Nat) : Int))] (by kernel_rfl) ?_
      refine op_nil ?_
      refine W_region (by kernel_rfl) ?_
      refine sg [(16, .slice (some ⟨w.heap.size, 0, none⟩) ((mm : Int).toNat) ((mm : Int).toNat)), (17, .int .i64 ((i : Nat) : Int)), (18, .int .i64 ((a.getD i 0 : Nat) : Int))] (by kernel_rfl) ?_
      refine st (by rfl) (S_call (args := [.int .i64 ((a.getD i 0 : Nat) : Int)]) (by kernel_rfl) (not_ok (a.getD i 0) _ (by omega)) ?_)
      rintro _ w7 ⟨rfl, hT8⟩
      have hT0 := hT0.t0 hT8
      have hAc := hA.tch0 hT0
      have hOut := hOut.tch0 hT8
      have hnt9 := GateP.nt_div (a.getD i 0)
      refine stv (v := .pointer (some ⟨w.heap.size, i, none⟩)) (by rfl) (R_index0 (b := w.heap.size) (len := (mm : Int).toNat) (cap := (mm : Int).toNat) (k := .i64) (i := ((i : Nat) : Int)) (e := 3) i (by kernel_rfl) (by kernel_rfl) (by kernel_rfl) (by kernel_rfl) rfl (by first | omega | (simp only [List.length_set, List.length_map]; omega))) ?_
      refine st (by rfl) (S_store (b := w.heap.size) (j := i) (v := .int .i64 ((GateP.nt (a.getD i 0) : Nat) : Int)) (by kernel_rfl) (by kernel_rfl) (by kernel_rfl) (by rfl) hOut (by rw [List.length_append, nats_length]; (first | omega | (simp only [List.length_set, List.length_map]; omega))) fun w10 hT11 hs12 hOut' => ?_)
      have hT0 := (hT0).then hT11 (fun c e => by have : c = w.heap.size := e; omega)
      have hAc := hA.tch0 hT0
      replace hOut : Blk w10 (w.heap.size) 3 (nats (o.set i (GateP.nt (a.getD i 0))) ++ []) := (nats_setP (l := o) (sp := []) (i := i) (GateP.nt (a.getD i 0)) (by first | omega | (simp only [List.length_set, List.length_map]; omega))) ▸ hOut'
      refine op_nil ?_
      refine W_fg [(0, .slice A mm ca), (2, .slice none 0 0), (3, .slice (some ⟨w.heap.size, 0, none⟩) ((mm : Int).toNat) ((mm : Int).toNat)), (4, .int .i64 ((i : Nat) : Int)), (5, .int .i64 ((a.getD i 0 : Nat) : Int)), (9, .slice A mm ca), (10, .int .i64 (mm : Int)), (11, .int .i64 ((i : Nat) : Int)), (12, .bool (decide (((i : Nat) : Int) < (mm : Int))))] (by kernel_rfl) fun ρ => ?_
      refine W_region (by kernel_rfl) ?_
      refine sg [(21, .int .i64 (IntKind.i64.wrap (((i : Nat) : Int) + 1)))] (by kernel_rfl) ?_
      rw [show IntKind.i64.wrap (((i : Nat) : Int) + 1) = ((i : Nat) : Int) + 1 from wrap_i64 (by omega) (by omega)]
      refine fixR (y := ((i + 1 : Nat) : Int)) (by omega) ?_
      refine sg [(11, .int .i64 ((i + 1 : Nat) : Int))] (by kernel_rfl) ?_
      refine op_nil ?_
      refine ⟨_, ?_, o.set i (GateP.nt (a.getD i 0)), i + 1, _, updL_self (by kernel_rfl), ?_, by rw [List.length_set]; exact hol, mv_put (by omega) hmv rfl, hT0, hAc, hOut, rfl⟩
      · omega
      · omega
    · replace hc6 : (mm : Int) ≤ ((i : Nat) : Int) := (Int.not_lt.1 (of_decide_eq_false hc6))
      refine W_exit ?_
      refine X_hit ?_
      refine W_seq ?_
      refine W_region (by kernel_rfl) ?_
      refine sg [(22, .slice (some ⟨w.heap.size, 0, none⟩) ((mm : Int).toNat) ((mm : Int).toNat)), (2, .slice (some ⟨w.heap.size, 0, none⟩) ((mm : Int).toNat) ((mm : Int).toNat))] (by kernel_rfl) ?_
      refine op_nil ?_
      refine W_ret ?_
      exact ⟨_, Res_of (v := .slice (some ⟨w.heap.size, 0, none⟩) ((mm : Int).toNat) ((mm : Int).toNat)) (by kernel_rfl), ⟨_, o, rfl, hol, hOut, by omega, fun j h => hmv j (by omega), hT0⟩⟩

set_option maxRecDepth 100000 in
theorem const_ok (p wd x : Nat) (w : World) (h1 : 1 ≤ wd) (h2 : wd ≤ 64) (hx : x < 18446744073709551616) : Ret Try.prog 46 [.pointer (some ⟨p, 0, none⟩), .int .i64 ((wd : Nat) : Int), .int .u64 ((x : Nat) : Int)] w fun v w' => ∃ g r, v = .slice (some ⟨g, 0, none⟩) wd wd ∧ r.length = wd ∧ Blk w' g 3 (nats r ++ []) ∧ w.heap.size ≤ g ∧ (∀ j, j < wd → r.getD j 0 = (if x.testBit j = true then 0 else 1)) ∧ Tch N0 w w' := by
  refine enter Try.func46 rfl rfl ?_
  refine W_seq ?_
  refine W_region (by kernel_rfl) ?_
  refine sg [(6, .slice none 0 0)] (by kernel_rfl) ?_
  refine op_nil ?_
  refine W_seq ?_
  refine W_seq ?_
  refine W_region (by kernel_rfl) ?_
  refine sg [(9, .pointer (some ⟨p, 0, none⟩)), (10, .bool false), (11, .bool false), (12, .int .i64 ((wd : Nat) : Int)), (13, .bool (decide (((wd : Nat) : Int) < 1))), (14, .bool (decide (((wd : Nat) : Int) < 1))), (15, .bool (decide (((wd : Nat) : Int) < 1)))] (by kernel_rfl) ?_
  cases hb1 : decide (((wd : Nat) : Int) < 1)
  · replace hb1 : 1 ≤ ((wd : Nat) : Int) := (Int.not_lt.1 (of_decide_eq_false hb1))
    refine sg [(16, .int .i64 ((wd : Nat) : Int)), (17, .bool (decide (((wd : Nat) : Int) > 64))), (18, .bool (decide (((wd : Nat) : Int) > 64)))] (by kernel_rfl) ?_
    refine op_nil ?_
    refine W_cond (decide (((wd : Nat) : Int) > 64)) (by kernel_rfl) (by kernel_rfl) (fun hc2 => ?_) (fun hc2 => ?_)
    · replace hc2 : 64 < ((wd : Nat) : Int) := (of_decide_eq_true hc2)
      exfalso; omega
    · replace hc2 : ((wd : Nat) : Int) ≤ 64 := (Int.not_lt.1 (of_decide_eq_false hc2))
      refine W_skip ?_
      refine W_seq ?_
      refine W_fg [(0, .pointer (some ⟨p, 0, none⟩)), (1, .int .i64 ((wd : Nat) : Int)), (2, .int .u64 ((x : Nat) : Int)), (6, .slice none 0 0), (18, .bool (decide (((wd : Nat) : Int) > 64)))] (by kernel_rfl) fun ρ => ?_
      refine W_region (by kernel_rfl) ?_
      refine sg [(19, .int .i64 ((wd : Nat) : Int))] (by kernel_rfl) ?_
      refine st (by rfl) (S_make 27 3 (.int .i64 0) 1 8 (k1 := .i64) (k2 := .i64) (l := ((wd : Nat) : Int)) (c := ((wd : Nat) : Int)) (by kernel_rfl) (by kernel_rfl) (by kernel_rfl) (by kernel_rfl) (by omega) (by omega) (by omega) (by omega) fun w3 hT4 hs5 hB6 => ?_)
      replace hB6 : Blk w3 (w.heap.size) 3 (nats (List.replicate (wd) 0) ++ []) := by rw [← mz_nats]; exact hB6
      have hT0 := hT4
      refine sg [(7, .slice (some ⟨w.heap.size, 0, none⟩) wd wd)] (by kernel_rfl) ?_
      refine op_nil ?_
      refine W_seq ?_
      refine W_seq ?_
      refine W_region (by kernel_rfl) ?_
      refine sg [(21, .slice (some ⟨w.heap.size, 0, none⟩) wd wd), (22, .int .i64 (wd : Int)), (23, .int .i64 0)] (by kernel_rfl) ?_
      refine op_nil ?_
      refine W_block ?_
      refine W_loop (fun m ρ w' => ∃ (o : List Nat) (i : Nat) (ρ0 : Env), ρ = updL ρ0 [(0, .pointer (some ⟨p, 0, none⟩)), (2, .int .u64 ((x : Nat) : Int)), (6, .slice none 0 0), (7, .slice (some ⟨w.heap.size, 0, none⟩) wd wd), (22, .int .i64 (wd : Int)), (23, .int .i64 ((i : Nat) : Int))] ∧ (i ≤ wd) ∧ (o.length = wd) ∧ (∀ j, j < i → o.getD j 0 = (if x.testBit j = true then 0 else 1)) ∧ Tch N0 w w' ∧ Blk w' (w.heap.size) 3 (nats o ++ []) ∧ m = wd - i) (m := wd - 0) ?_ ?_
      · refine ⟨List.replicate wd 0, 0, _, updL_self (by kernel_rfl), by omega, by simp, (fun j h => by omega), hT0, hB6, rfl⟩
      · rintro m ρ w7 ⟨o, i, ρ, rfl, hi, hol, hmv, hT0, hOut, rfl⟩
        refine W_seq ?_
        refine W_region (by kernel_rfl) ?_
        refine sg [(24, .bool (decide (((i : Nat) : Int) < (wd : Int))))] (by kernel_rfl) ?_
        refine op_nil ?_
        refine W_seq ?_
        refine W_cond (decide (((i : Nat) : Int) < (wd : Int))) (by kernel_rfl) (by kernel_rfl) (fun hc8 => ?_) (fun hc8 => ?_)
        · replace hc8 : ((i : Nat) : Int) < (wd : Int) := (of_decide_eq_true hc8)
          refine W_skip ?_
          refine W_seq ?_
          refine W_block ?_
          refine W_seq ?_
          refine W_region (by kernel_rfl) ?_
          refine sg [(25, .int .i64 ((i : Nat) : Int)), (8, .int .i64 ((i : Nat) : Int))] (by kernel_rfl) ?_
          refine op_nil ?_
          refine W_seq ?_
          refine W_region (by kernel_rfl) ?_
          refine sg [(26, .slice (some ⟨w.heap.size, 0, none⟩) wd wd), (27, .int .i64 ((i : Nat) : Int)), (28, .pointer (some ⟨p, 0, none⟩))] (by kernel_rfl) ?_
          refine st (by rfl) (S_call (args := [.pointer (some ⟨p, 0, none⟩)]) (by kernel_rfl) (true_ok p _) ?_)
          rintro _ w9 ⟨rfl, hT10⟩
          have hT0 := hT0.t0 hT10
          have hOut := hOut.tch0 hT10
          refine stv (v := .pointer (some ⟨w.heap.size, i, none⟩)) (by rfl) (R_index0 (b := w.heap.size) (len := wd) (cap := wd) (k := .i64) (i := ((i : Nat) : Int)) (e := 3) i (by kernel_rfl) (by kernel_rfl) (by kernel_rfl) (by kernel_rfl) rfl (by first | omega | (simp only [List.length_set, List.length_map]; omega))) ?_
          refine st (by rfl) (S_store (b := w.heap.size) (j := i) (v := .int .i64 0) (by kernel_rfl) (by kernel_rfl) (by kernel_rfl) (by rfl) hOut (by rw [List.length_append, nats_length]; (first | omega | (simp only [List.length_set, List.length_map]; omega))) fun w11 hT12 hs13 hOut' => ?_)
          have hT0 := (hT0).then hT12 (fun c e => by have : c = w.heap.size := e; omega)
          replace hOut : Blk w11 (w.heap.size) 3 (nats (o.set i 0) ++ []) := (nats_setP (l := o) (sp := []) (i := i) 0 (by first | omega | (simp only [List.length_set, List.length_map]; omega))) ▸ hOut'
          refine op_nil ?_
          refine W_seq ?_
          refine W_fg [(0, .pointer (some ⟨p, 0, none⟩)), (2, .int .u64 ((x : Nat) : Int)), (6, .slice none 0 0), (7, .slice (some ⟨w.heap.size, 0, none⟩) wd wd), (8, .int .i64 ((i : Nat) : Int)), (22, .int .i64 (wd : Int)), (23, .int .i64 ((i : Nat) : Int)), (24, .bool (decide (((i : Nat) : Int) < (wd : Int))))] (by kernel_rfl) fun ρ => ?_
          refine W_region (by kernel_rfl) ?_
          refine sg [(31, .int .u64 ((x : Nat) : Int)), (32, .int .i64 ((i : Nat) : Int))] (by kernel_rfl) ?_
          refine stv (v := .int .u64 ((x / pw i : Nat) : Int)) (by kernel_rfl) (R_shrP (k2 := .i64) x i (by kernel_rfl) (by kernel_rfl) (by omega)) ?_
          refine sg [(34, .int .u64 (IntKind.u64.wrap (BitVec.ofInt 64 ((x / pw i : Nat) : Int) &&& BitVec.ofInt 64 1).toNat))] (by kernel_rfl) ?_
          rw [and1_u (x / pw i) (Nat.lt_of_le_of_lt (Nat.div_le_self _ _) hx)]
          refine sg [(35, .bool (((x / pw i % 2 : Nat) : Int) == 0))] (by kernel_rfl) ?_
          refine op_nil ?_
          refine W_cond (((x / pw i % 2 : Nat) : Int) == 0) (by kernel_rfl) (by kernel_rfl) (fun hc14 => ?_) (fun hc14 => ?_)
          · replace hc14 : ((x / pw i % 2 : Nat) : Int) = 0 := (eq_of_beq hc14)
            have hg0 : (o.set i 0).getD i 0 = 0 := by rw [setN _ _ _ _ (by omega), if_pos rfl]
            refine W_region (by kernel_rfl) ?_
            refine sg [(36, .slice (some ⟨w.heap.size, 0, none⟩) wd wd), (37, .int .i64 ((i : Nat) : Int)), (38, .slice (some ⟨w.heap.size, 0, none⟩) wd wd), (39, .int .i64 ((i : Nat) : Int))] (by kernel_rfl) ?_
            refine stv (v := .pointer (some ⟨w.heap.size, i, none⟩)) (by rfl) (R_index0 (b := w.heap.size) (len := wd) (cap := wd) (k := .i64) (i := ((i : Nat) : Int)) (e := 3) i (by kernel_rfl) (by kernel_rfl) (by kernel_rfl) (by kernel_rfl) rfl (by first | omega | (simp only [List.length_set, List.length_map]; omega))) ?_
            refine st (by rfl) (S_val (v := .int .i64 (((o.set i 0).getD i 0 : Nat) : Int)) (R_load (v := .int .i64 (((o.set i 0).getD i 0 : Nat) : Int)) (by kernel_rfl) (by kernel_rfl) ((hOut.cell _).trans (nats_atP (by first | omega | (simp only [List.length_set, List.length_map]; omega))))) ?_)
            refine st (by rfl) (S_call (args := [.int .i64 (((o.set i 0).getD i 0 : Nat) : Int)]) (by kernel_rfl) (not_ok ((o.set i 0).getD i 0) _ (by omega)) ?_)
            rintro _ w15 ⟨rfl, hT16⟩
            have hT0 := hT0.t0 hT16
            have hOut := hOut.tch0 hT16
            have hnt17 := GateP.nt_div ((o.set i 0).getD i 0)
            refine stv (v := .pointer (some ⟨w.heap.size, i, none⟩)) (by rfl) (R_index0 (b := w.heap.size) (len := wd) (cap := wd) (k := .i64) (i := ((i : Nat) : Int)) (e := 3) i (by kernel_rfl) (by kernel_rfl) (by kernel_rfl) (by kernel_rfl) rfl (by first | omega | (simp only [List.length_set, List.length_map]; omega))) ?_
            refine st (by rfl) (S_store (b := w.heap.size) (j := i) (v := .int .i64 ((GateP.nt ((o.set i 0).getD i 0) : Nat) : Int)) (by kernel_rfl) (by kernel_rfl) (by kernel_rfl) (by rfl) hOut (by rw [List.length_append, nats_length]; (first | omega | (simp only [List.length_set, List.length_map]; omega))) fun w18 hT19 hs20 hOut' => ?_)
            have hT0 := (hT0).then hT19 (fun c e => by have : c = w.heap.size := e; omega)
            replace hOut : Blk w18 (w.heap.size) 3 (nats ((o.set i 0).set i (GateP.nt ((o.set i 0).getD i 0))) ++ []) := (nats_setP (l := o.set i 0) (sp := []) (i := i) (GateP.nt ((o.set i 0).getD i 0)) (by first | omega | (simp only [List.length_set, List.length_map]; omega))) ▸ hOut'
            refine op_nil ?_
            refine W_fg [(0, .pointer (some ⟨p, 0, none⟩)), (2, .int .u64 ((x : Nat) : Int)), (6, .slice none 0 0), (7, .slice (some ⟨w.heap.size, 0, none⟩) wd wd), (8, .int .i64 ((i : Nat) : Int)), (22, .int .i64 (wd : Int)), (23, .int .i64 ((i : Nat) : Int)), (24, .bool (decide (((i : Nat) : Int) < (wd : Int)))), (35, .bool (((x / pw i % 2 : Nat) : Int) == 0))] (by kernel_rfl) fun ρ => ?_
            refine W_region (by kernel_rfl) ?_
            refine sg [(44, .int .i64 (IntKind.i64.wrap (((i : Nat) : Int) + 1)))] (by kernel_rfl) ?_
            rw [show IntKind.i64.wrap (((i : Nat) : Int) + 1) = ((i : Nat) : Int) + 1 from wrap_i64 (by omega) (by omega)]
            refine fixR (y := ((i + 1 : Nat) : Int)) (by omega) ?_
            refine sg [(23, .int .i64 ((i + 1 : Nat) : Int))] (by kernel_rfl) ?_
            refine op_nil ?_
            refine ⟨_, ?_, (o.set i 0).set i (GateP.nt ((o.set i 0).getD i 0)), i + 1, _, updL_self (by kernel_rfl), ?_, by rw [List.length_set, List.length_set]; exact hol, mv_put2 (by omega) hmv (by rw [if_neg (by rw [← bit_div]; omega), hg0]; rfl), hT0, hOut, rfl⟩
            · omega
            · omega
          · replace hc14 : ((x / pw i % 2 : Nat) : Int) ≠ 0 := (ne_of_beq_false hc14)
            refine W_skip ?_
            refine W_region (by kernel_rfl) ?_
            refine sg [(44, .int .i64 (IntKind.i64.wrap (((i : Nat) : Int) + 1)))] (by kernel_rfl) ?_
            rw [show IntKind.i64.wrap (((i : Nat) : Int) + 1) = ((i : Nat) : Int) + 1 from wrap_i64 (by omega) (by omega)]
            refine fixR (y := ((i + 1 : Nat) : Int)) (by omega) ?_
            refine sg [(23, .int .i64 ((i + 1 : Nat) : Int))] (by kernel_rfl) ?_
            refine op_nil ?_
            refine ⟨_, ?_, o.set i 0, i + 1, _, updL_self (by kernel_rfl), ?_, by rw [List.length_set]; exact hol, mv_put (by omega) hmv (by rw [if_pos ((bit_div x i).1 (by omega))]), hT0, hOut, rfl⟩
            · omega
            · omega
        · replace hc8 : (wd : Int) ≤ ((i : Nat) : Int) := (Int.not_lt.1 (of_decide_eq_false hc8))
          refine W_exit ?_
          refine X_hit ?_
          refine W_seq ?_
          refine W_region (by kernel_rfl) ?_
          refine sg [(45, .slice (some ⟨w.heap.size, 0, none⟩) wd wd), (6, .slice (some ⟨w.heap.size, 0, none⟩) wd wd)] (by kernel_rfl) ?_
          refine op_nil ?_
          refine W_ret ?_
          exact ⟨_, Res_of (v := .slice (some ⟨w.heap.size, 0, none⟩) wd wd) (by kernel_rfl), ⟨_, o, rfl, hol, hOut, by omega, fun j h => hmv j (by omega), hT0⟩⟩
  · replace hb1 : ((wd : Nat) : Int) < 1 := (of_decide_eq_true hb1)
    exfalso; omega

set_option maxRecDepth 100000 in
theorem const_big (p : Nat) (W : Int) (x : Int) (w : World) (hW : W < 1 ∨ 64 < W) : Ret Try.prog 46 [.pointer (some ⟨p, 0, none⟩), .int .i64 W, .int .u64 x] w fun v w' => v = .slice none 0 0 ∧ Tch N0 w w' := by
  refine enter Try.func46 rfl rfl ?_
  refine W_seq ?_
  refine W_region (by kernel_rfl) ?_
  refine sg [(6, .slice none 0 0)] (by kernel_rfl) ?_
  refine op_nil ?_
  refine W_seq ?_
  refine W_seq ?_
  refine W_region (by kernel_rfl) ?_
  refine sg [(9, .pointer (some ⟨p, 0, none⟩)), (10, .bool false), (11, .bool false), (12, .int .i64 W), (13, .bool (decide (W < 1))), (14, .bool (decide (W < 1))), (15, .bool (decide (W < 1)))] (by kernel_rfl) ?_
  cases hb1 : decide (W < 1)
  · replace hb1 : 1 ≤ W := (Int.not_lt.1 (of_decide_eq_false hb1))
    refine sg [(16, .int .i64 W), (17, .bool (decide (W > 64))), (18, .bool (decide (W > 64)))] (by kernel_rfl) ?_
    refine op_nil ?_
    refine W_cond (decide (W > 64)) (by kernel_rfl) (by kernel_rfl) (fun hc2 => ?_) (fun hc2 => ?_)
    · replace hc2 : 64 < W := (of_decide_eq_true hc2)
      refine W_seq ?_
      refine W_fg [(0, .pointer (some ⟨p, 0, none⟩)), (1, .int .i64 W), (2, .int .u64 x), (6, .slice none 0 0), (18, .bool (decide (W > 64)))] (by kernel_rfl) fun ρ => ?_
      refine W_region (by kernel_rfl) ?_
      refine sg [(6, .slice none 0 0)] (by kernel_rfl) ?_
      refine op_nil ?_
      refine W_ret ?_
      exact ⟨_, Res_of (v := .slice none 0 0) (by kernel_rfl), ⟨rfl, Tch.refl _ _⟩⟩
    · replace hc2 : W ≤ 64 := (Int.not_lt.1 (of_decide_eq_false hc2))
      exfalso; omega
  · replace hb1 : W < 1 := (of_decide_eq_true hb1)
    refine sg [(16, undef), (17, undef), (18, .bool true)] (by kernel_rfl) ?_
    refine op_nil ?_
    refine W_cond true (by kernel_rfl) (by kernel_rfl) (fun _ => ?_) (fun h => nomatch h)
    refine W_seq ?_
    refine W_fg [(0, .pointer (some ⟨p, 0, none⟩)), (1, .int .i64 W), (2, .int .u64 x), (6, .slice none 0 0), (18, .bool true)] (by kernel_rfl) fun ρ => ?_
    refine W_region (by kernel_rfl) ?_
    refine sg [(6, .slice none 0 0)] (by kernel_rfl) ?_
    refine op_nil ?_
    refine W_ret ?_
    exact ⟨_, Res_of (v := .slice none 0 0) (by kernel_rfl), ⟨rfl, Tch.refl _ _⟩⟩

end Go.Proofs.YtnlecdpiccgdpaaV
