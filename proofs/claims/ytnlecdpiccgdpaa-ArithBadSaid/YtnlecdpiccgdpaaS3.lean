/- Walks of functions of the program and of the document's texts. The conditions stand with each theorem. -/
import Derived.Test.YtnlecdpiccgdpaaVx13
import Derived.Test.YtnlecdpiccgdpaaProg
import Derived.Test.YtnlecdpiccgdpaaVx4
import Derived.Test.YtnlecdpiccgdpaaS2
import Derived.Test.YtnlecdpiccgdpaaLawP
set_option linter.unusedVariables false
set_option linter.unusedSimpArgs false
namespace Go.Proofs.YtnlecdpiccgdpaaV
open Go Go.RowKit Go.Proofs

set_option maxRecDepth 100000 in
theorem sless_ok (F : Nat → Prop) (p n mm ca cb : Nat) (A B : Option Addr) (a b : List Nat)  (cs : List (List Nat)) (I : Nat → Prop) (w : World) (hG : GObj F w p n cs I) (hA : RdX F w mm A (nats a)) (hB : RdX F w mm B (nats b)) (hfa : ∀ j, j < mm → a.getD j 0 / 2 < n) (hfb : ∀ j, j < mm → b.getD j 0 / 2 < n) (hm : 0 < mm) (hm2 : mm ≤ 1000) (hn : n ≤ 50000000000) : Ret Try.prog 44 [.pointer (some ⟨p, 0, none⟩), .slice A mm ca, .slice B mm cb] w fun v w' => GRet F p n cs I w (2 * mm) (fun be => lsB (flip mm (fun j => lt_ be (a.getD j 0))) (flip mm (fun j => lt_ be (b.getD j 0))) mm) v w' := by
  have hMv := Mv.refl F w
  have hla : a.length = mm := by have := hA.1.1; rw [nats_length] at this; omega
  have hlb : b.length = mm := by have := hB.1.1; rw [nats_length] at this; omega
  have hAr := hA.1
  have hBr := hB.1
  have lt_hA := hA.lt
  have lt_hB := hB.lt
  have ge_hA : ∀ c, blkOf A = some c → 0 ≤ c := fun c _ => Nat.zero_le c
  have ge_hB : ∀ c, blkOf B = some c → 0 ≤ c := fun c _ => Nat.zero_le c
  have hff_a := hfa
  have hff_b := hfb
  have hpos := hG.2.pos
  have hta := hfa (mm - 1) (by omega)
  have htb := hfb (mm - 1) (by omega)
  refine enter Try.func44 rfl rfl ?_
  refine W_seq ?_
  refine W_region (by kernel_rfl) ?_
  refine sg [(6, .int .i64 0)] (by kernel_rfl) ?_
  refine op_nil ?_
  refine W_seq ?_
  refine W_seq ?_
  refine W_region (by kernel_rfl) ?_
  refine sg [(10, .pointer (some ⟨p, 0, none⟩)), (11, .slice A mm ca), (12, .slice B mm cb)] (by kernel_rfl) ?_
  have hlt_ := hG.1.lt
  have hz5 := hMv.1.size
  refine st (by rfl) (S_new (v := .slice (some ⟨w.heap.size, 0, none⟩) 2 2) (ob := .cells #[.slice A mm ca, .slice B mm cb] 27) (by kernel_rfl) fun w1 hT2 hs3 hB4 => ?_)
  replace hB4 : Blk w1 (w.heap.size) 27 [.slice A mm ca, .slice B mm cb] := hB4
  have hG := hG.tch0 hT2
  have hMv := hMv.then0 hT2
  have hA := hA.tch0 hT2
  have hAr := hA.1
  have hB := hB.tch0 hT2
  have hBr := hB.1
  have nF_hB4 : ¬ F (w.heap.size) := fun e => by have := hlt_ _ e; omega
  refine st (by rfl) (S_call (args := [.pointer (some ⟨p, 0, none⟩), .slice (some ⟨w.heap.size, 0, none⟩) 2 2]) (by kernel_rfl) (fine_nats p (w.heap.size) mm ca cb A B _ _ _ hB4 hAr hBr (by omega)) ?_)
  rintro _ w6 ⟨rfl, hT7⟩
  have hG := hG.tch0 hT7
  have hMv := hMv.then0 hT7
  have hA := hA.tch0 hT7
  have hAr := hA.1
  have hB := hB.tch0 hT7
  have hBr := hB.1
  have hB4 := hB4.tch0 hT7
  refine sg [(15, .bool false)] (by kernel_rfl) ?_
  refine op_nil ?_
  refine W_cond false (by kernel_rfl) (by kernel_rfl) (fun h => nomatch h) (fun _ => ?_)
  refine W_skip ?_
  refine W_seq ?_
  refine W_region (by kernel_rfl) ?_
  refine sg [(16, .slice A mm ca), (17, .int .i64 (mm : Int)), (18, .int .i64 (IntKind.i64.wrap ((mm : Int) - 1)))] (by kernel_rfl) ?_
  rw [show IntKind.i64.wrap ((mm : Int) - 1) = (mm : Int) - 1 from wrap_i64 (by omega) (by omega)]
  refine fixR (y := ((mm - 1 : Nat) : Int)) (by omega) ?_
  refine sg [(7, .int .i64 ((mm - 1 : Nat) : Int))] (by kernel_rfl) ?_
  refine op_nil ?_
  refine W_seq ?_
  refine W_fg [(0, .pointer (some ⟨p, 0, none⟩)), (1, .slice A mm ca), (2, .slice B mm cb), (6, .int .i64 0), (7, .int .i64 ((mm - 1 : Nat) : Int)), (15, .bool false)] (by kernel_rfl) fun ρ => ?_
  refine W_region (by kernel_rfl) ?_
  refine sg [(19, .slice A mm ca)] (by kernel_rfl) ?_
  have hlt_ := hG.1.lt
  have hz11 := hMv.1.size
  have lt12 := hB4.lt
  refine st (by rfl) (S_append_nil 27 3 (.int .i64 0) 8 (m := mm) (news := nats a) (A := A) (c := ca) (by kernel_rfl) (by rfl) (by kernel_rfl) (by kernel_rfl) (by kernel_rfl) hA.1 (nats_oneV _) (by simp only [maxLen]; omega) (by omega) (by omega) fun cp10 spx w8 hXc hT9 => ?_)
  have hG := hG.tch0 hT9
  have hMv := hMv.then0 hT9
  have hA := hA.tch0 hT9
  have hAr := hA.1
  have hB := hB.tch0 hT9
  have hBr := hB.1
  have hB4 := hB4.tch0 hT9
  have hlx13 := hXc.lt
  have nF_hXc : ¬ F (w6.heap.size) := fun e => by have := hlt_ _ e; omega
  refine sg [(21, .slice B mm cb)] (by kernel_rfl) ?_
  have hlt_ := hG.1.lt
  have hz17 := hMv.1.size
  have lt18 := hB4.lt
  have lt19 := hXc.lt
  refine st (by rfl) (S_append_nil 27 3 (.int .i64 0) 8 (m := mm) (news := nats b) (A := B) (c := cb) (by kernel_rfl) (by rfl) (by kernel_rfl) (by kernel_rfl) (by kernel_rfl) hB.1 (nats_oneV _) (by simp only [maxLen]; omega) (by omega) (by omega) fun cp16 spy w14 hYc hT15 => ?_)
  have hG := hG.tch0 hT15
  have hMv := hMv.then0 hT15
  have hA := hA.tch0 hT15
  have hAr := hA.1
  have hB := hB.tch0 hT15
  have hBr := hB.1
  have hB4 := hB4.tch0 hT15
  have hXc := hXc.tch0 hT15
  have hlx20 := hYc.lt
  have nF_hYc : ¬ F (w8.heap.size) := fun e => by have := hlt_ _ e; omega
  refine sg [(8, .slice (some ⟨w6.heap.size, 0, none⟩) mm cp10), (9, .slice (some ⟨w8.heap.size, 0, none⟩) mm cp16)] (by kernel_rfl) ?_
  refine op_nil ?_
  refine W_seq ?_
  refine W_draw (fun w' => True) (by kernel_rfl) (by kernel_rfl) (by kernel_rfl) fun w21 hT22 hh23 => ?_
  have hG := hG.tch0 hT22
  have hMv := hMv.then0 hT22
  have hA := hA.tch0 hT22
  have hAr := hA.1
  have hB := hB.tch0 hT22
  have hBr := hB.1
  have hB4 := hB4.tch0 hT22
  have hXc := hXc.tch0 hT22
  have hYc := hYc.tch0 hT22
  refine dtk [0, 1, 2, 3, 4, 5, 9, 10] #[true, true, true, true, true, true, false, false, false, true, true, false, false, false, false, false, false, false] [(23, .slice (some ⟨w6.heap.size, 0, none⟩) mm cp10), (24, .int .i64 ((mm - 1 : Nat) : Int)), (25, .slice (some ⟨w8.heap.size, 0, none⟩) mm cp16), (26, .int .i64 ((mm - 1 : Nat) : Int)), (27, .slice (some ⟨w6.heap.size, 0, none⟩) mm cp10), (28, .int .i64 ((mm - 1 : Nat) : Int)), (32, .slice (some ⟨w8.heap.size, 0, none⟩) mm cp16), (33, .int .i64 ((mm - 1 : Nat) : Int))] trivial (by kernel_rfl) ?_
  refine d_val (v := .pointer (some ⟨w6.heap.size, mm - 1, none⟩)) 6 (by rfl) (by kernel_rfl) (by kernel_rfl) (by kernel_rfl) (fun w' hs => by exact R_index0 (b := w6.heap.size) (len := mm) (cap := cp10) (k := .i64) (i := ((mm - 1 : Nat) : Int)) (e := 3) (mm - 1) (by kernel_rfl) (by kernel_rfl) (by kernel_rfl) (by kernel_rfl) rfl (by first | omega | (simp only [List.length_set, List.length_map]; omega))) trivial ?_
  refine d_val (v := .pointer (some ⟨w8.heap.size, mm - 1, none⟩)) 11 (by rfl) (by kernel_rfl) (by kernel_rfl) (by kernel_rfl) (fun w' hs => by exact R_index0 (b := w8.heap.size) (len := mm) (cap := cp16) (k := .i64) (i := ((mm - 1 : Nat) : Int)) (e := 3) (mm - 1) (by kernel_rfl) (by kernel_rfl) (by kernel_rfl) (by kernel_rfl) rfl (by first | omega | (simp only [List.length_set, List.length_map]; omega))) trivial ?_
  refine d_two 7 12 (by kernel_rfl) (by rfl) (by rfl) (by kernel_rfl) (by kernel_rfl) ?_ ?_
  · refine (S_val (v := .int .i64 ((a.getD (mm - 1) 0 : Nat) : Int)) (R_load (v := .int .i64 ((a.getD (mm - 1) 0 : Nat) : Int)) (by kernel_rfl) (by kernel_rfl) ((hXc.cell _).trans (nats_atP (by first | omega | (simp only [List.length_set, List.length_map]; omega))))) ?_)
    refine ⟨trivial, ?_⟩
    refine d_two 8 12 (by kernel_rfl) (by rfl) (by rfl) (by kernel_rfl) (by kernel_rfl) ?_ ?_
    · refine (S_call (args := [.int .i64 ((a.getD (mm - 1) 0 : Nat) : Int)]) (by kernel_rfl) (not_ok (a.getD (mm - 1) 0) _ (by omega)) ?_)
      rintro _ w24 ⟨rfl, hT25⟩
      have hG := hG.tch0 hT25
      have hMv := hMv.then0 hT25
      have hA := hA.tch0 hT25
      have hAr := hA.1
      have hB := hB.tch0 hT25
      have hBr := hB.1
      have hB4 := hB4.tch0 hT25
      have hXc := hXc.tch0 hT25
      have hYc := hYc.tch0 hT25
      have hnt26 := GateP.nt_div (a.getD (mm - 1) 0)
      refine ⟨trivial, ?_⟩
      refine d_one 12 (by kernel_rfl) (by rfl) (by kernel_rfl) (S_val (v := .int .i64 ((b.getD (mm - 1) 0 : Nat) : Int)) (R_load (v := .int .i64 ((b.getD (mm - 1) 0 : Nat) : Int)) (by kernel_rfl) (by kernel_rfl) ((hYc.cell _).trans (nats_atP (by first | omega | (simp only [List.length_set, List.length_map]; omega))))) ?_)
      refine ⟨trivial, ?_⟩
      refine d_one 13 (by kernel_rfl) (by rfl) (by kernel_rfl) (S_call (args := [.int .i64 ((b.getD (mm - 1) 0 : Nat) : Int)]) (by kernel_rfl) (not_ok (b.getD (mm - 1) 0) _ (by omega)) ?_)
      rintro _ w27 ⟨rfl, hT28⟩
      have hG := hG.tch0 hT28
      have hMv := hMv.then0 hT28
      have hA := hA.tch0 hT28
      have hAr := hA.1
      have hB := hB.tch0 hT28
      have hBr := hB.1
      have hB4 := hB4.tch0 hT28
      have hXc := hXc.tch0 hT28
      have hYc := hYc.tch0 hT28
      have hnt29 := GateP.nt_div (b.getD (mm - 1) 0)
      refine ⟨trivial, ?_⟩
      refine d_val (v := .pointer (some ⟨w6.heap.size, mm - 1, none⟩)) 14 (by rfl) (by kernel_rfl) (by kernel_rfl) (by kernel_rfl) (fun w' hs => by exact R_index0 (b := w6.heap.size) (len := mm) (cap := cp10) (k := .i64) (i := ((mm - 1 : Nat) : Int)) (e := 3) (mm - 1) (by kernel_rfl) (by kernel_rfl) (by kernel_rfl) (by kernel_rfl) rfl (by first | omega | (simp only [List.length_set, List.length_map]; omega))) trivial ?_
      refine d_one 15 (by kernel_rfl) (by rfl) (by kernel_rfl) (S_store (b := w6.heap.size) (j := mm - 1) (v := .int .i64 ((GateP.nt (a.getD (mm - 1) 0) : Nat) : Int)) (by kernel_rfl) (by kernel_rfl) (by kernel_rfl) (by rfl) hXc (by rw [List.length_append, nats_length]; (first | omega | (simp only [List.length_set, List.length_map]; omega))) fun w30 hT31 hs32 hXc' => ?_)
      have hG := hG.tchS hT31 (fun c e q => by cases e; exact nF_hXc q)
      have hMv := hMv.newst hT31 (by omega)
      have hA := hA.st hT31 (fun c hc e => by have h1 := lt_hA c hc; have h2 := ge_hA c hc; have : c = w6.heap.size := e; omega)
      have hAr := hA.1
      have hB := hB.st hT31 (fun c hc e => by have h1 := lt_hB c hc; have h2 := ge_hB c hc; have : c = w6.heap.size := e; omega)
      have hBr := hB.1
      have hB4 := hB4.tch hT31 (hB4.ne hXc (by decide))
      have hYc := hYc.tch hT31 (fun e => by have : w8.heap.size = w6.heap.size := e; omega)
      replace hXc : Blk w30 (w6.heap.size) 3 (nats (a.set (mm - 1) (GateP.nt (a.getD (mm - 1) 0))) ++ spx) := (nats_setP (l := a) (sp := spx) (i := mm - 1) (GateP.nt (a.getD (mm - 1) 0)) (by first | omega | (simp only [List.length_set, List.length_map]; omega))) ▸ hXc'
      refine ⟨trivial, ?_⟩
      refine d_val (v := .pointer (some ⟨w8.heap.size, mm - 1, none⟩)) 16 (by rfl) (by kernel_rfl) (by kernel_rfl) (by kernel_rfl) (fun w' hs => by exact R_index0 (b := w8.heap.size) (len := mm) (cap := cp16) (k := .i64) (i := ((mm - 1 : Nat) : Int)) (e := 3) (mm - 1) (by kernel_rfl) (by kernel_rfl) (by kernel_rfl) (by kernel_rfl) rfl (by first | omega | (simp only [List.length_set, List.length_map]; omega))) trivial ?_
      refine d_one 17 (by kernel_rfl) (by rfl) (by kernel_rfl) (S_store (b := w8.heap.size) (j := mm - 1) (v := .int .i64 ((GateP.nt (b.getD (mm - 1) 0) : Nat) : Int)) (by kernel_rfl) (by kernel_rfl) (by kernel_rfl) (by rfl) hYc (by rw [List.length_append, nats_length]; (first | omega | (simp only [List.length_set, List.length_map]; omega))) fun w33 hT34 hs35 hYc' => ?_)
      have hG := hG.tchS hT34 (fun c e q => by cases e; exact nF_hYc q)
      have hMv := hMv.newst hT34 (by omega)
      have hA := hA.st hT34 (fun c hc e => by have h1 := lt_hA c hc; have h2 := ge_hA c hc; have : c = w8.heap.size := e; omega)
      have hAr := hA.1
      have hB := hB.st hT34 (fun c hc e => by have h1 := lt_hB c hc; have h2 := ge_hB c hc; have : c = w8.heap.size := e; omega)
      have hBr := hB.1
      have hB4 := hB4.tch hT34 (hB4.ne hYc (by decide))
      have hXc := hXc.tch hT34 (fun e => by have : w6.heap.size = w8.heap.size := e; omega)
      replace hYc : Blk w33 (w8.heap.size) 3 (nats (b.set (mm - 1) (GateP.nt (b.getD (mm - 1) 0))) ++ spy) := (nats_setP (l := b) (sp := spy) (i := mm - 1) (GateP.nt (b.getD (mm - 1) 0)) (by first | omega | (simp only [List.length_set, List.length_map]; omega))) ▸ hYc'
      refine ⟨trivial, ?_⟩
      refine d_done (by kernel_rfl) ?_
      refine W_seq ?_
      refine W_fg [(0, .pointer (some ⟨p, 0, none⟩)), (1, .slice A mm ca), (2, .slice B mm cb), (6, .int .i64 0), (7, .int .i64 ((mm - 1 : Nat) : Int)), (8, .slice (some ⟨w6.heap.size, 0, none⟩) mm cp10), (9, .slice (some ⟨w8.heap.size, 0, none⟩) mm cp16), (15, .bool false)] (by kernel_rfl) fun ρ => ?_
      refine W_region (by kernel_rfl) ?_
      refine sg [(39, .pointer (some ⟨p, 0, none⟩)), (40, .slice (some ⟨w6.heap.size, 0, none⟩) mm cp10), (41, .slice (some ⟨w8.heap.size, 0, none⟩) mm cp16)] (by kernel_rfl) ?_
      have lt44 := hB4.lt
      have lt45 := hXc.lt
      have lt46 := hYc.lt
      have hzM := hMv.1.size
      have RhXc : RdX F w33 mm _ (nats (a.set (mm - 1) (GateP.nt (a.getD (mm - 1) 0)))) := RdX.ofP hXc (by rw [nats_length, List.length_set]; omega) (by omega) nF_hXc
      have RhYc : RdX F w33 mm _ (nats (b.set (mm - 1) (GateP.nt (b.getD (mm - 1) 0)))) := RdX.ofP hYc (by rw [nats_length, List.length_set]; omega) (by omega) nF_hYc
      have ffa : ∀ j, j < mm → (a.set (mm - 1) (GateP.nt (a.getD (mm - 1) 0))).getD j 0 / 2 < n := fun j hj => by rw [setN _ _ _ _ (by omega)]; split; (rw [nt_div]; exact hfa _ (by omega)); exact hfa j hj
      have ffb : ∀ j, j < mm → (b.set (mm - 1) (GateP.nt (b.getD (mm - 1) 0))).getD j 0 / 2 < n := fun j hj => by rw [setN _ _ _ _ (by omega)]; split; (rw [nt_div]; exact hfb _ (by omega)); exact hfb j hj
      refine st (by rfl) (S_call (args := [.pointer (some ⟨p, 0, none⟩), .slice (some ⟨w6.heap.size, 0, none⟩) mm cp10, .slice (some ⟨w8.heap.size, 0, none⟩) mm cp16]) (by kernel_rfl) (less_ok F p n mm cp10 cp16 (some ⟨w6.heap.size, 0, none⟩) (some ⟨w8.heap.size, 0, none⟩) (a.set (mm - 1) (GateP.nt (a.getD (mm - 1) 0))) (b.set (mm - 1) (GateP.nt (b.getD (mm - 1) 0))) cs I _ hG RhXc RhYc ffa ffb hm hm2 (by omega)) ?_)
      rintro _ w36 ⟨F37, n38, cs39, x40, rfl, hG, hm41, hr42, hd43⟩
      have hMv := hMv.trans hm41
      have hA := hA.mv hm41
      have hAr := hA.1
      have hB := hB.mv hm41
      have hBr := hB.1
      have hB4 := hB4.tch hm41.1 nF_hB4
      have hXc := hXc.tch hm41.1 nF_hXc
      have hYc := hYc.tch hm41.1 nF_hYc
      have hle47 := hr42.1
      replace nF_hB4 : ¬ F37 (w.heap.size) := fun e => (hm41.2 _ e).elim nF_hB4 (fun q => by omega)
      replace nF_hXc : ¬ F37 (w6.heap.size) := fun e => (hm41.2 _ e).elim nF_hXc (fun q => by omega)
      replace nF_hYc : ¬ F37 (w8.heap.size) := fun e => (hm41.2 _ e).elim nF_hYc (fun q => by omega)
      refine sg [(6, .int .i64 ((x40 : Nat) : Int))] (by kernel_rfl) ?_
      refine op_nil ?_
      refine W_ret ?_
      exact ⟨_, Res_of (v := .int .i64 ((x40 : Nat) : Int)) (by kernel_rfl), ⟨F37, n38, cs39, x40, rfl, hG, hMv, hr42.eq (fun be hm => lsB_congr (fun j hj => by show lt_ be ((a.set _ _).getD j 0) = _; rw [setN _ _ _ _ (by omega)]; unfold flip; split; (rename_i e; rw [lt_nt, e]); rfl) (fun j hj => by show lt_ be ((b.set _ _).getD j 0) = _; rw [setN _ _ _ _ (by omega)]; unfold flip; split; (rename_i e; rw [lt_nt, e]); rfl)), by omega⟩⟩
    · refine (S_val (v := .int .i64 ((b.getD (mm - 1) 0 : Nat) : Int)) (R_load (v := .int .i64 ((b.getD (mm - 1) 0 : Nat) : Int)) (by kernel_rfl) (by kernel_rfl) ((hYc.cell _).trans (nats_atP (by first | omega | (simp only [List.length_set, List.length_map]; omega))))) ?_)
      refine ⟨trivial, ?_⟩
      refine d_one 8 (by kernel_rfl) (by rfl) (by kernel_rfl) (S_call (args := [.int .i64 ((a.getD (mm - 1) 0 : Nat) : Int)]) (by kernel_rfl) (not_ok (a.getD (mm - 1) 0) _ (by omega)) ?_)
      rintro _ w48 ⟨rfl, hT49⟩
      have hG := hG.tch0 hT49
      have hMv := hMv.then0 hT49
      have hA := hA.tch0 hT49
      have hAr := hA.1
      have hB := hB.tch0 hT49
      have hBr := hB.1
      have hB4 := hB4.tch0 hT49
      have hXc := hXc.tch0 hT49
      have hYc := hYc.tch0 hT49
      have hnt50 := GateP.nt_div (a.getD (mm - 1) 0)
      refine ⟨trivial, ?_⟩
      refine d_one 13 (by kernel_rfl) (by rfl) (by kernel_rfl) (S_call (args := [.int .i64 ((b.getD (mm - 1) 0 : Nat) : Int)]) (by kernel_rfl) (not_ok (b.getD (mm - 1) 0) _ (by omega)) ?_)
      rintro _ w51 ⟨rfl, hT52⟩
      have hG := hG.tch0 hT52
      have hMv := hMv.then0 hT52
      have hA := hA.tch0 hT52
      have hAr := hA.1
      have hB := hB.tch0 hT52
      have hBr := hB.1
      have hB4 := hB4.tch0 hT52
      have hXc := hXc.tch0 hT52
      have hYc := hYc.tch0 hT52
      have hnt53 := GateP.nt_div (b.getD (mm - 1) 0)
      refine ⟨trivial, ?_⟩
      refine d_val (v := .pointer (some ⟨w6.heap.size, mm - 1, none⟩)) 14 (by rfl) (by kernel_rfl) (by kernel_rfl) (by kernel_rfl) (fun w' hs => by exact R_index0 (b := w6.heap.size) (len := mm) (cap := cp10) (k := .i64) (i := ((mm - 1 : Nat) : Int)) (e := 3) (mm - 1) (by kernel_rfl) (by kernel_rfl) (by kernel_rfl) (by kernel_rfl) rfl (by first | omega | (simp only [List.length_set, List.length_map]; omega))) trivial ?_
      refine d_one 15 (by kernel_rfl) (by rfl) (by kernel_rfl) (S_store (b := w6.heap.size) (j := mm - 1) (v := .int .i64 ((GateP.nt (a.getD (mm - 1) 0) : Nat) : Int)) (by kernel_rfl) (by kernel_rfl) (by kernel_rfl) (by rfl) hXc (by rw [List.length_append, nats_length]; (first | omega | (simp only [List.length_set, List.length_map]; omega))) fun w54 hT55 hs56 hXc' => ?_)
      have hG := hG.tchS hT55 (fun c e q => by cases e; exact nF_hXc q)
      have hMv := hMv.newst hT55 (by omega)
      have hA := hA.st hT55 (fun c hc e => by have h1 := lt_hA c hc; have h2 := ge_hA c hc; have : c = w6.heap.size := e; omega)
      have hAr := hA.1
      have hB := hB.st hT55 (fun c hc e => by have h1 := lt_hB c hc; have h2 := ge_hB c hc; have : c = w6.heap.size := e; omega)
      have hBr := hB.1
      have hB4 := hB4.tch hT55 (hB4.ne hXc (by decide))
      have hYc := hYc.tch hT55 (fun e => by have : w8.heap.size = w6.heap.size := e; omega)
      replace hXc : Blk w54 (w6.heap.size) 3 (nats (a.set (mm - 1) (GateP.nt (a.getD (mm - 1) 0))) ++ spx) := (nats_setP (l := a) (sp := spx) (i := mm - 1) (GateP.nt (a.getD (mm - 1) 0)) (by first | omega | (simp only [List.length_set, List.length_map]; omega))) ▸ hXc'
      refine ⟨trivial, ?_⟩
      refine d_val (v := .pointer (some ⟨w8.heap.size, mm - 1, none⟩)) 16 (by rfl) (by kernel_rfl) (by kernel_rfl) (by kernel_rfl) (fun w' hs => by exact R_index0 (b := w8.heap.size) (len := mm) (cap := cp16) (k := .i64) (i := ((mm - 1 : Nat) : Int)) (e := 3) (mm - 1) (by kernel_rfl) (by kernel_rfl) (by kernel_rfl) (by kernel_rfl) rfl (by first | omega | (simp only [List.length_set, List.length_map]; omega))) trivial ?_
      refine d_one 17 (by kernel_rfl) (by rfl) (by kernel_rfl) (S_store (b := w8.heap.size) (j := mm - 1) (v := .int .i64 ((GateP.nt (b.getD (mm - 1) 0) : Nat) : Int)) (by kernel_rfl) (by kernel_rfl) (by kernel_rfl) (by rfl) hYc (by rw [List.length_append, nats_length]; (first | omega | (simp only [List.length_set, List.length_map]; omega))) fun w57 hT58 hs59 hYc' => ?_)
      have hG := hG.tchS hT58 (fun c e q => by cases e; exact nF_hYc q)
      have hMv := hMv.newst hT58 (by omega)
      have hA := hA.st hT58 (fun c hc e => by have h1 := lt_hA c hc; have h2 := ge_hA c hc; have : c = w8.heap.size := e; omega)
      have hAr := hA.1
      have hB := hB.st hT58 (fun c hc e => by have h1 := lt_hB c hc; have h2 := ge_hB c hc; have : c = w8.heap.size := e; omega)
      have hBr := hB.1
      have hB4 := hB4.tch hT58 (hB4.ne hYc (by decide))
      have hXc := hXc.tch hT58 (fun e => by have : w6.heap.size = w8.heap.size := e; omega)
      replace hYc : Blk w57 (w8.heap.size) 3 (nats (b.set (mm - 1) (GateP.nt (b.getD (mm - 1) 0))) ++ spy) := (nats_setP (l := b) (sp := spy) (i := mm - 1) (GateP.nt (b.getD (mm - 1) 0)) (by first | omega | (simp only [List.length_set, List.length_map]; omega))) ▸ hYc'
      refine ⟨trivial, ?_⟩
      refine d_done (by kernel_rfl) ?_
      refine W_seq ?_
      refine W_fg [(0, .pointer (some ⟨p, 0, none⟩)), (1, .slice A mm ca), (2, .slice B mm cb), (6, .int .i64 0), (7, .int .i64 ((mm - 1 : Nat) : Int)), (8, .slice (some ⟨w6.heap.size, 0, none⟩) mm cp10), (9, .slice (some ⟨w8.heap.size, 0, none⟩) mm cp16), (15, .bool false)] (by kernel_rfl) fun ρ => ?_
      refine W_region (by kernel_rfl) ?_
      refine sg [(39, .pointer (some ⟨p, 0, none⟩)), (40, .slice (some ⟨w6.heap.size, 0, none⟩) mm cp10), (41, .slice (some ⟨w8.heap.size, 0, none⟩) mm cp16)] (by kernel_rfl) ?_
      have lt68 := hB4.lt
      have lt69 := hXc.lt
      have lt70 := hYc.lt
      have hzM := hMv.1.size
      have RhXc : RdX F w57 mm _ (nats (a.set (mm - 1) (GateP.nt (a.getD (mm - 1) 0)))) := RdX.ofP hXc (by rw [nats_length, List.length_set]; omega) (by omega) nF_hXc
      have RhYc : RdX F w57 mm _ (nats (b.set (mm - 1) (GateP.nt (b.getD (mm - 1) 0)))) := RdX.ofP hYc (by rw [nats_length, List.length_set]; omega) (by omega) nF_hYc
      have ffa : ∀ j, j < mm → (a.set (mm - 1) (GateP.nt (a.getD (mm - 1) 0))).getD j 0 / 2 < n := fun j hj => by rw [setN _ _ _ _ (by omega)]; split; (rw [nt_div]; exact hfa _ (by omega)); exact hfa j hj
      have ffb : ∀ j, j < mm → (b.set (mm - 1) (GateP.nt (b.getD (mm - 1) 0))).getD j 0 / 2 < n := fun j hj => by rw [setN _ _ _ _ (by omega)]; split; (rw [nt_div]; exact hfb _ (by omega)); exact hfb j hj
      refine st (by rfl) (S_call (args := [.pointer (some ⟨p, 0, none⟩), .slice (some ⟨w6.heap.size, 0, none⟩) mm cp10, .slice (some ⟨w8.heap.size, 0, none⟩) mm cp16]) (by kernel_rfl) (less_ok F p n mm cp10 cp16 (some ⟨w6.heap.size, 0, none⟩) (some ⟨w8.heap.size, 0, none⟩) (a.set (mm - 1) (GateP.nt (a.getD (mm - 1) 0))) (b.set (mm - 1) (GateP.nt (b.getD (mm - 1) 0))) cs I _ hG RhXc RhYc ffa ffb hm hm2 (by omega)) ?_)
      rintro _ w60 ⟨F61, n62, cs63, x64, rfl, hG, hm65, hr66, hd67⟩
      have hMv := hMv.trans hm65
      have hA := hA.mv hm65
      have hAr := hA.1
      have hB := hB.mv hm65
      have hBr := hB.1
      have hB4 := hB4.tch hm65.1 nF_hB4
      have hXc := hXc.tch hm65.1 nF_hXc
      have hYc := hYc.tch hm65.1 nF_hYc
      have hle71 := hr66.1
      replace nF_hB4 : ¬ F61 (w.heap.size) := fun e => (hm65.2 _ e).elim nF_hB4 (fun q => by omega)
      replace nF_hXc : ¬ F61 (w6.heap.size) := fun e => (hm65.2 _ e).elim nF_hXc (fun q => by omega)
      replace nF_hYc : ¬ F61 (w8.heap.size) := fun e => (hm65.2 _ e).elim nF_hYc (fun q => by omega)
      refine sg [(6, .int .i64 ((x64 : Nat) : Int))] (by kernel_rfl) ?_
      refine op_nil ?_
      refine W_ret ?_
      exact ⟨_, Res_of (v := .int .i64 ((x64 : Nat) : Int)) (by kernel_rfl), ⟨F61, n62, cs63, x64, rfl, hG, hMv, hr66.eq (fun be hm => lsB_congr (fun j hj => by show lt_ be ((a.set _ _).getD j 0) = _; rw [setN _ _ _ _ (by omega)]; unfold flip; split; (rename_i e; rw [lt_nt, e]); rfl) (fun j hj => by show lt_ be ((b.set _ _).getD j 0) = _; rw [setN _ _ _ _ (by omega)]; unfold flip; split; (rename_i e; rw [lt_nt, e]); rfl)), by omega⟩⟩
  · refine (S_val (v := .int .i64 ((b.getD (mm - 1) 0 : Nat) : Int)) (R_load (v := .int .i64 ((b.getD (mm - 1) 0 : Nat) : Int)) (by kernel_rfl) (by kernel_rfl) ((hYc.cell _).trans (nats_atP (by first | omega | (simp only [List.length_set, List.length_map]; omega))))) ?_)
    refine ⟨trivial, ?_⟩
    refine d_one 7 (by kernel_rfl) (by rfl) (by kernel_rfl) (S_val (v := .int .i64 ((a.getD (mm - 1) 0 : Nat) : Int)) (R_load (v := .int .i64 ((a.getD (mm - 1) 0 : Nat) : Int)) (by kernel_rfl) (by kernel_rfl) ((hXc.cell _).trans (nats_atP (by first | omega | (simp only [List.length_set, List.length_map]; omega))))) ?_)
    refine ⟨trivial, ?_⟩
    refine d_one 8 (by kernel_rfl) (by rfl) (by kernel_rfl) (S_call (args := [.int .i64 ((a.getD (mm - 1) 0 : Nat) : Int)]) (by kernel_rfl) (not_ok (a.getD (mm - 1) 0) _ (by omega)) ?_)
    rintro _ w72 ⟨rfl, hT73⟩
    have hG := hG.tch0 hT73
    have hMv := hMv.then0 hT73
    have hA := hA.tch0 hT73
    have hAr := hA.1
    have hB := hB.tch0 hT73
    have hBr := hB.1
    have hB4 := hB4.tch0 hT73
    have hXc := hXc.tch0 hT73
    have hYc := hYc.tch0 hT73
    have hnt74 := GateP.nt_div (a.getD (mm - 1) 0)
    refine ⟨trivial, ?_⟩
    refine d_one 13 (by kernel_rfl) (by rfl) (by kernel_rfl) (S_call (args := [.int .i64 ((b.getD (mm - 1) 0 : Nat) : Int)]) (by kernel_rfl) (not_ok (b.getD (mm - 1) 0) _ (by omega)) ?_)
    rintro _ w75 ⟨rfl, hT76⟩
    have hG := hG.tch0 hT76
    have hMv := hMv.then0 hT76
    have hA := hA.tch0 hT76
    have hAr := hA.1
    have hB := hB.tch0 hT76
    have hBr := hB.1
    have hB4 := hB4.tch0 hT76
    have hXc := hXc.tch0 hT76
    have hYc := hYc.tch0 hT76
    have hnt77 := GateP.nt_div (b.getD (mm - 1) 0)
    refine ⟨trivial, ?_⟩
    refine d_val (v := .pointer (some ⟨w6.heap.size, mm - 1, none⟩)) 14 (by rfl) (by kernel_rfl) (by kernel_rfl) (by kernel_rfl) (fun w' hs => by exact R_index0 (b := w6.heap.size) (len := mm) (cap := cp10) (k := .i64) (i := ((mm - 1 : Nat) : Int)) (e := 3) (mm - 1) (by kernel_rfl) (by kernel_rfl) (by kernel_rfl) (by kernel_rfl) rfl (by first | omega | (simp only [List.length_set, List.length_map]; omega))) trivial ?_
    refine d_one 15 (by kernel_rfl) (by rfl) (by kernel_rfl) (S_store (b := w6.heap.size) (j := mm - 1) (v := .int .i64 ((GateP.nt (a.getD (mm - 1) 0) : Nat) : Int)) (by kernel_rfl) (by kernel_rfl) (by kernel_rfl) (by rfl) hXc (by rw [List.length_append, nats_length]; (first | omega | (simp only [List.length_set, List.length_map]; omega))) fun w78 hT79 hs80 hXc' => ?_)
    have hG := hG.tchS hT79 (fun c e q => by cases e; exact nF_hXc q)
    have hMv := hMv.newst hT79 (by omega)
    have hA := hA.st hT79 (fun c hc e => by have h1 := lt_hA c hc; have h2 := ge_hA c hc; have : c = w6.heap.size := e; omega)
    have hAr := hA.1
    have hB := hB.st hT79 (fun c hc e => by have h1 := lt_hB c hc; have h2 := ge_hB c hc; have : c = w6.heap.size := e; omega)
    have hBr := hB.1
    have hB4 := hB4.tch hT79 (hB4.ne hXc (by decide))
    have hYc := hYc.tch hT79 (fun e => by have : w8.heap.size = w6.heap.size := e; omega)
    replace hXc : Blk w78 (w6.heap.size) 3 (nats (a.set (mm - 1) (GateP.nt (a.getD (mm - 1) 0))) ++ spx) := (nats_setP (l := a) (sp := spx) (i := mm - 1) (GateP.nt (a.getD (mm - 1) 0)) (by first | omega | (simp only [List.length_set, List.length_map]; omega))) ▸ hXc'
    refine ⟨trivial, ?_⟩
    refine d_val (v := .pointer (some ⟨w8.heap.size, mm - 1, none⟩)) 16 (by rfl) (by kernel_rfl) (by kernel_rfl) (by kernel_rfl) (fun w' hs => by exact R_index0 (b := w8.heap.size) (len := mm) (cap := cp16) (k := .i64) (i := ((mm - 1 : Nat) : Int)) (e := 3) (mm - 1) (by kernel_rfl) (by kernel_rfl) (by kernel_rfl) (by kernel_rfl) rfl (by first | omega | (simp only [List.length_set, List.length_map]; omega))) trivial ?_
    refine d_one 17 (by kernel_rfl) (by rfl) (by kernel_rfl) (S_store (b := w8.heap.size) (j := mm - 1) (v := .int .i64 ((GateP.nt (b.getD (mm - 1) 0) : Nat) : Int)) (by kernel_rfl) (by kernel_rfl) (by kernel_rfl) (by rfl) hYc (by rw [List.length_append, nats_length]; (first | omega | (simp only [List.length_set, List.length_map]; omega))) fun w81 hT82 hs83 hYc' => ?_)
    have hG := hG.tchS hT82 (fun c e q => by cases e; exact nF_hYc q)
    have hMv := hMv.newst hT82 (by omega)
    have hA := hA.st hT82 (fun c hc e => by have h1 := lt_hA c hc; have h2 := ge_hA c hc; have : c = w8.heap.size := e; omega)
    have hAr := hA.1
    have hB := hB.st hT82 (fun c hc e => by have h1 := lt_hB c hc; have h2 := ge_hB c hc; have : c = w8.heap.size := e; omega)
    have hBr := hB.1
    have hB4 := hB4.tch hT82 (hB4.ne hYc (by decide))
    have hXc := hXc.tch hT82 (fun e => by have : w6.heap.size = w8.heap.size := e; omega)
    replace hYc : Blk w81 (w8.heap.size) 3 (nats (b.set (mm - 1) (GateP.nt (b.getD (mm - 1) 0))) ++ spy) := (nats_setP (l := b) (sp := spy) (i := mm - 1) (GateP.nt (b.getD (mm - 1) 0)) (by first | omega | (simp only [List.length_set, List.length_map]; omega))) ▸ hYc'
    refine ⟨trivial, ?_⟩
    refine d_done (by kernel_rfl) ?_
    refine W_seq ?_
    refine W_fg [(0, .pointer (some ⟨p, 0, none⟩)), (1, .slice A mm ca), (2, .slice B mm cb), (6, .int .i64 0), (7, .int .i64 ((mm - 1 : Nat) : Int)), (8, .slice (some ⟨w6.heap.size, 0, none⟩) mm cp10), (9, .slice (some ⟨w8.heap.size, 0, none⟩) mm cp16), (15, .bool false)] (by kernel_rfl) fun ρ => ?_
    refine W_region (by kernel_rfl) ?_
    refine sg [(39, .pointer (some ⟨p, 0, none⟩)), (40, .slice (some ⟨w6.heap.size, 0, none⟩) mm cp10), (41, .slice (some ⟨w8.heap.size, 0, none⟩) mm cp16)] (by kernel_rfl) ?_
    have lt92 := hB4.lt
    have lt93 := hXc.lt
    have lt94 := hYc.lt
    have hzM := hMv.1.size
    have RhXc : RdX F w81 mm _ (nats (a.set (mm - 1) (GateP.nt (a.getD (mm - 1) 0)))) := RdX.ofP hXc (by rw [nats_length, List.length_set]; omega) (by omega) nF_hXc
    have RhYc : RdX F w81 mm _ (nats (b.set (mm - 1) (GateP.nt (b.getD (mm - 1) 0)))) := RdX.ofP hYc (by rw [nats_length, List.length_set]; omega) (by omega) nF_hYc
    have ffa : ∀ j, j < mm → (a.set (mm - 1) (GateP.nt (a.getD (mm - 1) 0))).getD j 0 / 2 < n := fun j hj => by rw [setN _ _ _ _ (by omega)]; split; (rw [nt_div]; exact hfa _ (by omega)); exact hfa j hj
    have ffb : ∀ j, j < mm → (b.set (mm - 1) (GateP.nt (b.getD (mm - 1) 0))).getD j 0 / 2 < n := fun j hj => by rw [setN _ _ _ _ (by omega)]; split; (rw [nt_div]; exact hfb _ (by omega)); exact hfb j hj
    refine st (by rfl) (S_call (args := [.pointer (some ⟨p, 0, none⟩), .slice (some ⟨w6.heap.size, 0, none⟩) mm cp10, .slice (some ⟨w8.heap.size, 0, none⟩) mm cp16]) (by kernel_rfl) (less_ok F p n mm cp10 cp16 (some ⟨w6.heap.size, 0, none⟩) (some ⟨w8.heap.size, 0, none⟩) (a.set (mm - 1) (GateP.nt (a.getD (mm - 1) 0))) (b.set (mm - 1) (GateP.nt (b.getD (mm - 1) 0))) cs I _ hG RhXc RhYc ffa ffb hm hm2 (by omega)) ?_)
    rintro _ w84 ⟨F85, n86, cs87, x88, rfl, hG, hm89, hr90, hd91⟩
    have hMv := hMv.trans hm89
    have hA := hA.mv hm89
    have hAr := hA.1
    have hB := hB.mv hm89
    have hBr := hB.1
    have hB4 := hB4.tch hm89.1 nF_hB4
    have hXc := hXc.tch hm89.1 nF_hXc
    have hYc := hYc.tch hm89.1 nF_hYc
    have hle95 := hr90.1
    replace nF_hB4 : ¬ F85 (w.heap.size) := fun e => (hm89.2 _ e).elim nF_hB4 (fun q => by omega)
    replace nF_hXc : ¬ F85 (w6.heap.size) := fun e => (hm89.2 _ e).elim nF_hXc (fun q => by omega)
    replace nF_hYc : ¬ F85 (w8.heap.size) := fun e => (hm89.2 _ e).elim nF_hYc (fun q => by omega)
    refine sg [(6, .int .i64 ((x88 : Nat) : Int))] (by kernel_rfl) ?_
    refine op_nil ?_
    refine W_ret ?_
    exact ⟨_, Res_of (v := .int .i64 ((x88 : Nat) : Int)) (by kernel_rfl), ⟨F85, n86, cs87, x88, rfl, hG, hMv, hr90.eq (fun be hm => lsB_congr (fun j hj => by show lt_ be ((a.set _ _).getD j 0) = _; rw [setN _ _ _ _ (by omega)]; unfold flip; split; (rename_i e; rw [lt_nt, e]); rfl) (fun j hj => by show lt_ be ((b.set _ _).getD j 0) = _; rw [setN _ _ _ _ (by omega)]; unfold flip; split; (rename_i e; rw [lt_nt, e]); rfl)), by omega⟩⟩

end Go.Proofs.YtnlecdpiccgdpaaV
