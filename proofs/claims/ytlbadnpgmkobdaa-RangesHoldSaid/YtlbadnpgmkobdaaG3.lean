/- Walks of functions of the program and of the document's texts. The conditions stand with each theorem. -/
import Derived.Test.YtlbadnpgmkobdaaJRrang26x1
import Derived.Test.YtlbadnpgmkobdaaJRrang26x1
import Derived.Test.YtlbadnpgmkobdaaProg
import Derived.Test.YtlbadnpgmkobdaaG2
set_option linter.unusedVariables false
set_option linter.unusedSimpArgs false
namespace Go.Proofs.YtlbadnpgmkobdaaV
open Go Go.RowKit Go.Proofs

/-- What the map of spans holds. -/
def spR (l : List K) : Value → Value → Prop := fun x y => ∃ i : Nat, i < l.length ∧ x = .int .i64 ((i : Nat) : Int) ∧ y = kV (kg l i)
theorem look_any {l : List K} {k v : Value} {ok : Bool} (hv : ok = true ∧ spR l k v ∨ ok = false ∧ v = kV (0, 0) ∧ ∀ y, ¬ spR l k y) : ∃ z, v = kV z := by
 rcases hv with ⟨_, i, _, _, rfl⟩ | ⟨_, rfl, _⟩
 ·
  exact ⟨_, rfl⟩
 ·
  exact ⟨_, rfl⟩
theorem spR_nil (x y : Value) : spR [] x y ↔ False := ⟨fun ⟨i, h, _⟩ => by simp at h, fun h => h.elim⟩
theorem spR_add {l : List K} {z : K} (x y : Value) : spR (l ++ [z]) x y ↔ (x ≠ .int .i64 ((l.length : Nat) : Int) ∧ spR l x y) ∨ (x = .int .i64 ((l.length : Nat) : Int) ∧ y = kV z) := by
 constructor
 ·
  rintro ⟨i, hi, rfl, rfl⟩
  rw [List.length_append] at hi
  simp only [List.length_cons, List.length_nil] at hi
  by_cases e : i = l.length
  ·
   subst e; exact .inr ⟨rfl, by rw [kg_app_eq]⟩
  ·
   exact .inl ⟨fun q => by injection q with _ q; omega, i, by omega, rfl, by rw [kg_app_lt (by omega)]⟩
 ·
  rintro (⟨hx, i, hi, rfl, rfl⟩ | ⟨rfl, rfl⟩)
  ·
   exact ⟨i, by rw [List.length_append]; omega, rfl, by rw [kg_app_lt hi]⟩
  ·
   exact ⟨l.length, by rw [List.length_append]; simp, rfl, by rw [kg_app_eq]⟩
section
variable {ρ : Env} {w : World}
set_option maxRecDepth 100000 in
theorem R_lookSp {d : Option Tmp} {t : TypeId} {m x : Operand} {ty : TypeId} {pos : String} {af : Array Edge} {g : Option (Nat × Bool)} {b : Nat} (l : List K) (a : Nat) (ht : pureR Try.prog (underlying t) = some (.map 3 113)) (hm : evR ρ m = .map (some b)) (hx : evR ρ x = .int .i64 ((a : Nat) : Int)) (hM : MapE Try.prog 3 w b (spR l)) (ha : a < l.length) (hb64 : b64 ((a : Nat) : Int)) :
  (execOp (evR ρ) ⟨d, .lookup t m x false, ty, pos, af, g⟩).run Try.prog w = .ok (.value (kV (kg l a))) w := by
 obtain ⟨es, clock, hb, q1, q2, q3⟩ := hM
 obtain ⟨lk, hl⟩ := key_int hb64
 have h1 := pureR_run (w := w) ht
 rcases key_law3.find w hl es.toList q1 with ⟨f1, f2⟩ | ⟨j, e0, f1, f2, f3⟩
 ·
  obtain ⟨e0, he, hk0, _⟩ := (q2 (.int .i64 ((a : Nat) : Int)) (kV (kg l a))).1 ⟨a, ha, rfl, rfl⟩
  exact absurd hk0 (f2 e0 he)
 ·
  have hv : e0.val = kV (kg l a) := by
   obtain ⟨i, hi, e1, e2⟩ := (q2 e0.key e0.val).2 ⟨e0, List.mem_of_getElem? f2, rfl, rfl⟩
   rw [f3] at e1
   have : a = i := by injection e1 with _ e1; omega
   rw [e2, this]
  simp only [execOp, hm, hx]
  simp [Instr.lookup, h1, MapKept.run_getObj_map hb, key_law3.check w _ hl, f1, f2, hv, Result.andThen]
end
theorem bit_and {x i : Nat} : ((x / pw i &&& 1 : Nat) : Int) = 1 ↔ x.testBit i = true := by
 rw [Nat.and_one_is_mod, ← bit_div]; omega

set_option maxRecDepth 100000 in
theorem sp20_ok (F : Nat → Prop) (p : Nat) (most : Int) (N : List Nd) (W : Value → Value → Prop) (f k mb : Nat) (l : List K) (nw wd up : Nat) (xa xb xc : Int) (x y z : K) (lo V : Nat) (w : World) (hL : TLow F w p most N W) (hN : N.length ≤ 65536) (hP : Blk w f 111 [.pointer (some ⟨p, 0, none⟩), .map (some mb)]) (hM : MapE Try.prog 3 w mb (spR l)) (hlk : l.length = k) (hk6 : k ≤ 65536) (hxa : b64 xa) (hV : V < 18446744073709551616) : Ret Try.prog 54 [.pointer (some ⟨f, 0, none⟩), .agg #[.int .i64 20, .int .i64 ((nw : Nat) : Int), .int .i64 xa, .int .i64 xb, .int .i64 xc, .int .u64 ((V : Nat) : Int)]] w fun v w' => v = .agg #[.int .u64 (((rone 20 nw wd up x y z lo V).1 : Nat) : Int), .int .u64 (((rone 20 nw wd up x y z lo V).2 : Nat) : Int)] ∧ Tch N0 w w' := by
 have hMl := hM.lt
 refine enter Try.func54 rfl rfl ?_
 refine zQ ?_
 have hlt_ := hL.lt
 have lt5 := hP.lt
 have l6 := hP.lt
 refine st (by rfl) (S_new (v := .pointer (some ⟨w.heap.size, 0, none⟩)) (ob := .cells #[.int .i64 20, .int .i64 ((nw : Nat) : Int), .int .i64 xa, .int .i64 xb, .int .i64 xc, .int .u64 ((V : Nat) : Int)] 32) (by kernel_rfl) fun w1 hT2 hs3 hB4 => ?_)
 replace hB4 : Blk w1 (w.heap.size) 32 [.int .i64 20, .int .i64 ((nw : Nat) : Int), .int .i64 xa, .int .i64 xb, .int .i64 xc, .int .u64 ((V : Nat) : Int)] := hB4
 have hT0 := hT2
 have hL := hL.tch0 hT2
 have hP := hP.tch0 hT2
 have hM := hM.tch0 hT2
 have nF_hB4 : ¬ F (w.heap.size) := fun e => by have := hlt_ _ e; omega
 have hlt_ := hL.lt
 have lt11 := hP.lt
 have lt12 := hB4.lt
 have z13 := hT0.size
 have l14 := hP.lt
 have l15 := hB4.lt
 refine st (by rfl) (S_new (v := .pointer (some ⟨w1.heap.size, 0, none⟩)) (ob := .cells #[.int .u64 0, .int .u64 0] 113) (by kernel_rfl) fun w7 hT8 hs9 hB10 => ?_)
 replace hB10 : Blk w7 (w1.heap.size) 113 [.int .u64 0, .int .u64 0] := hB10
 have hT0 := hT0.t0 hT8
 have hL := hL.tch0 hT8
 have hP := hP.tch0 hT8
 have hM := hM.tch0 hT8
 have hB4 := hB4.tch0 hT8
 have nF_hB10 : ¬ F (w1.heap.size) := fun e => by have := hlt_ _ e; omega
 refine op_nil ?_
 refine W_seq ?_
 refine W_draw (fun w' => MapE Try.prog 3 w' mb (spR l) ∧ Blk w' (f) 111 [.pointer (some ⟨p, 0, none⟩), .map (some mb)] ∧ Blk w' (w.heap.size) 32 [.int .i64 20, .int .i64 ((nw : Nat) : Int), .int .i64 xa, .int .i64 xb, .int .i64 xc, .int .u64 ((V : Nat) : Int)]) (by kernel_rfl) (by kernel_rfl) (by kernel_rfl) fun w16 hT17 hh18 => ?_
 have hT0 := hT0.t0 hT17
 have hL := hL.tch0 hT17
 have hP := hP.tch0 hT17
 have hM := hM.tch0 hT17
 have hB4 := hB4.tch0 hT17
 have hB10 := hB10.tch0 hT17
 refine zK [0, 4, 1, 2] #[true, true, true, false, true, false, false, false, false] [(12, .pointer (some ⟨f, 0, none⟩)), (16, .pointer (some ⟨w.heap.size, 2, none⟩)), (13, .pointer (some ⟨f, 0, none⟩)), (14, .pointer (some ⟨f, 1, none⟩))] ⟨hM, hP, hB4⟩ ?_
 refine zV 3 rfl (.map (some mb)) (fun _ ⟨hM, hP, hB4⟩ => R_load (v := .map (some mb)) (by kernel_rfl) (by kernel_rfl) ((hP.cell 1).trans rfl)) ⟨hM, hP, hB4⟩ ?_
 refine zV 5 rfl (.int .i64 xa) (fun _ ⟨hM, hP, hB4⟩ => R_load (v := .int .i64 xa) (by kernel_rfl) (by kernel_rfl) ((hB4.cell 2).trans rfl)) ⟨hM, hP, hB4⟩ ?_
 refine d_two 6 7 (by kernel_rfl) (by rfl) (by rfl) (by kernel_rfl) (by kernel_rfl) ?_ ?_
 ·
  refine (S_lookupE false 3 113 (kV (0, 0)) key_law3 (by kernel_rfl) (by kernel_rfl) (by kernel_rfl) (by kernel_rfl) (key_int (x := xa) (by unfold b64 at *; omega)) hM fun vz ok hv => ?_)
  obtain ⟨z19, rfl⟩ := look_any hv
  refine ⟨⟨hM, hP, hB4⟩, ?_⟩
  have hlt_ := hL.lt
  have lt24 := hP.lt
  have lt25 := hB4.lt
  have lt26 := hB10.lt
  have z27 := hT0.size
  have l28 := hP.lt
  have l29 := hB4.lt
  have l30 := hB10.lt
  refine zD 7 rfl (S_new (v := .pointer (some ⟨w16.heap.size, 0, none⟩)) (ob := .cells #[.int .u64 0, .int .u64 0] 113) (by kernel_rfl) fun w20 hT21 hs22 hB23 => ?_)
  replace hB23 : Blk w20 (w16.heap.size) 113 [.int .u64 0, .int .u64 0] := hB23
  have hT0 := hT0.t0 hT21
  have hL := hL.tch0 hT21
  have hP := hP.tch0 hT21
  have hM := hM.tch0 hT21
  have hB4 := hB4.tch0 hT21
  have hB10 := hB10.tch0 hT21
  have nF_hB23 : ¬ F (w16.heap.size) := fun e => by have := hlt_ _ e; omega
  refine ⟨⟨hM, hP, hB4⟩, ?_⟩
  refine zD 8 rfl (S_storeA (b := w16.heap.size) (j := 0) (cs := [.int .u64 ((z19.1 : Nat) : Int), .int .u64 ((z19.2 : Nat) : Int)]) (by kernel_rfl) (by kernel_rfl) (by kernel_rfl) (by simp [oneV]) hB23 (by simp) fun w31 hT32 hs33 hB23' => ?_)
  have hT0 := (hT0).then hT32 (fun c e => by have : c = w16.heap.size := e; omega)
  have hL := hL.tchS hT32 (fun c e q => by cases e; exact nF_hB23 q)
  have hP := hP.tch hT32 (hP.ne hB23 (by decide))
  have hM := hM.tch hT32 (fun e => hM.ne hB23 e)
  have hB4 := hB4.tch hT32 (hB4.ne hB23 (by decide))
  have hB10 := hB10.tch hT32 (fun e => by have : w1.heap.size = w16.heap.size := e; omega)
  replace hB23 : Blk w31 w16.heap.size 113 [.int .u64 ((z19.1 : Nat) : Int), .int .u64 ((z19.2 : Nat) : Int)] := hB23'
  refine ⟨⟨hM, hP, hB4⟩, ?_⟩
  refine d_done (by kernel_rfl) ?_
  refine W_seq ?_
  refine W_draw (fun w' => MapE Try.prog 3 w' mb (spR l) ∧ Blk w' (f) 111 [.pointer (some ⟨p, 0, none⟩), .map (some mb)] ∧ Blk w' (w.heap.size) 32 [.int .i64 20, .int .i64 ((nw : Nat) : Int), .int .i64 xa, .int .i64 xb, .int .i64 xc, .int .u64 ((V : Nat) : Int)]) (by kernel_rfl) (by kernel_rfl) (by kernel_rfl) fun w34 hT35 hh36 => ?_
  have hT0 := hT0.t0 hT35
  have hL := hL.tch0 hT35
  have hP := hP.tch0 hT35
  have hM := hM.tch0 hT35
  have hB4 := hB4.tch0 hT35
  have hB10 := hB10.tch0 hT35
  have hB23 := hB23.tch0 hT35
  refine zK [0, 4, 1, 2] #[true, true, true, false, true, false, false, false] [(19, .pointer (some ⟨f, 0, none⟩)), (23, .pointer (some ⟨w.heap.size, 2, none⟩)), (20, .pointer (some ⟨f, 0, none⟩)), (21, .pointer (some ⟨f, 0, none⟩))] ⟨hM, hP, hB4⟩ ?_
  refine zV 3 rfl (.pointer (some ⟨p, 0, none⟩)) (fun _ ⟨hM, hP, hB4⟩ => R_load (v := .pointer (some ⟨p, 0, none⟩)) (by kernel_rfl) (by kernel_rfl) ((hP.cell 0).trans rfl)) ⟨hM, hP, hB4⟩ ?_
  refine zV 5 rfl (.int .i64 xa) (fun _ ⟨hM, hP, hB4⟩ => R_load (v := .int .i64 xa) (by kernel_rfl) (by kernel_rfl) ((hB4.cell 2).trans rfl)) ⟨hM, hP, hB4⟩ ?_
  refine zD 6 rfl (S_call (args := [.pointer (some ⟨p, 0, none⟩), .int .i64 xa]) (by kernel_rfl) (width_ok F p most N W xa _ hL hN) ?_)
  rintro _ w37 ⟨rfl, hT38⟩
  have hT0 := hT0.t0 hT38
  have hL := hL.tch0 hT38
  have hP := hP.tch0 hT38
  have hM := hM.tch0 hT38
  have hB4 := hB4.tch0 hT38
  have hB10 := hB10.tch0 hT38
  have hB23 := hB23.tch0 hT38
  refine ⟨⟨hM, hP, hB4⟩, ?_⟩
  refine zK [7] #[true, true, true, true, true, true, true, true] [(6, .int .i64 (widF N xa))] ⟨hM, hP, hB4⟩ ?_
  refine d_done (by kernel_rfl) ?_
  refine W_seq ?_
  refine zQ ?_
  refine zS [(26, .pointer (some ⟨w.heap.size, 0, none⟩))] ?_
  refine zL (.int .i64 20) ((hB4.cell 0).trans rfl) ?_
  refine op_nil ?_
  refine W_block ?_
  refine zQ ?_
  refine zS [(29, .bool true), (28, .bool true)] ?_
  refine zO true (fun _ => ?_) (fun h => nomatch h)
  refine zQ ?_
  refine zS [(30, .pointer (some ⟨w.heap.size, 5, none⟩))] ?_
  refine zL (.int .u64 ((V : Nat) : Int)) ((hB4.cell 5).trans rfl) ?_
  refine zS [(32, .pointer (some ⟨w.heap.size, 5, none⟩))] ?_
  refine zL (.int .u64 ((V : Nat) : Int)) ((hB4.cell 5).trans rfl) ?_
  refine zS [(34, .agg #[.int .u64 ((V : Nat) : Int), .int .u64 ((V : Nat) : Int)])] ?_
  refine st (by rfl) (S_storeA (b := w1.heap.size) (j := 0) (cs := [.int .u64 ((V : Nat) : Int), .int .u64 ((V : Nat) : Int)]) (by kernel_rfl) (by kernel_rfl) (by kernel_rfl) (by simp [oneV]) hB10 (by simp) fun w39 hT40 hs41 hB10' => ?_)
  have hT0 := (hT0).then hT40 (fun c e => by have : c = w1.heap.size := e; omega)
  have hL := hL.tchS hT40 (fun c e q => by cases e; exact nF_hB10 q)
  have hP := hP.tch hT40 (hP.ne hB10 (by decide))
  have hM := hM.tch hT40 (fun e => hM.ne hB10 e)
  have hB4 := hB4.tch hT40 (hB4.ne hB10 (by decide))
  have hB23 := hB23.tch hT40 (fun e => by have : w16.heap.size = w1.heap.size := e; omega)
  replace hB10 : Blk w39 w1.heap.size 113 [.int .u64 ((V : Nat) : Int), .int .u64 ((V : Nat) : Int)] := hB10'
  refine op_nil ?_
  refine W_ret ?_
  exact ⟨_, Res_cell (b := w1.heap.size) (cs := [.int .u64 ((V : Nat) : Int), .int .u64 ((V : Nat) : Int)]) (by rfl) (by kernel_rfl) (by kernel_rfl) hB10 (by kernel_rfl) (by kernel_rfl), ⟨by kernel_rfl, hT0⟩⟩
 ·
  have hlt_ := hL.lt
  have lt46 := hP.lt
  have lt47 := hB4.lt
  have lt48 := hB10.lt
  have z49 := hT0.size
  have l50 := hP.lt
  have l51 := hB4.lt
  have l52 := hB10.lt
  refine (S_new (v := .pointer (some ⟨w16.heap.size, 0, none⟩)) (ob := .cells #[.int .u64 0, .int .u64 0] 113) (by kernel_rfl) fun w42 hT43 hs44 hB45 => ?_)
  replace hB45 : Blk w42 (w16.heap.size) 113 [.int .u64 0, .int .u64 0] := hB45
  have hT0 := hT0.t0 hT43
  have hL := hL.tch0 hT43
  have hP := hP.tch0 hT43
  have hM := hM.tch0 hT43
  have hB4 := hB4.tch0 hT43
  have hB10 := hB10.tch0 hT43
  have nF_hB45 : ¬ F (w16.heap.size) := fun e => by have := hlt_ _ e; omega
  refine ⟨⟨hM, hP, hB4⟩, ?_⟩
  refine zD 6 rfl (S_lookupE false 3 113 (kV (0, 0)) key_law3 (by kernel_rfl) (by kernel_rfl) (by kernel_rfl) (by kernel_rfl) (key_int (x := xa) (by unfold b64 at *; omega)) hM fun vz ok hv => ?_)
  obtain ⟨z53, rfl⟩ := look_any hv
  refine ⟨⟨hM, hP, hB4⟩, ?_⟩
  refine zD 8 rfl (S_storeA (b := w16.heap.size) (j := 0) (cs := [.int .u64 ((z53.1 : Nat) : Int), .int .u64 ((z53.2 : Nat) : Int)]) (by kernel_rfl) (by kernel_rfl) (by kernel_rfl) (by simp [oneV]) hB45 (by simp) fun w54 hT55 hs56 hB45' => ?_)
  have hT0 := (hT0).then hT55 (fun c e => by have : c = w16.heap.size := e; omega)
  have hL := hL.tchS hT55 (fun c e q => by cases e; exact nF_hB45 q)
  have hP := hP.tch hT55 (hP.ne hB45 (by decide))
  have hM := hM.tch hT55 (fun e => hM.ne hB45 e)
  have hB4 := hB4.tch hT55 (hB4.ne hB45 (by decide))
  have hB10 := hB10.tch hT55 (fun e => by have : w1.heap.size = w16.heap.size := e; omega)
  replace hB45 : Blk w54 w16.heap.size 113 [.int .u64 ((z53.1 : Nat) : Int), .int .u64 ((z53.2 : Nat) : Int)] := hB45'
  refine ⟨⟨hM, hP, hB4⟩, ?_⟩
  refine d_done (by kernel_rfl) ?_
  refine W_seq ?_
  refine W_draw (fun w' => MapE Try.prog 3 w' mb (spR l) ∧ Blk w' (f) 111 [.pointer (some ⟨p, 0, none⟩), .map (some mb)] ∧ Blk w' (w.heap.size) 32 [.int .i64 20, .int .i64 ((nw : Nat) : Int), .int .i64 xa, .int .i64 xb, .int .i64 xc, .int .u64 ((V : Nat) : Int)]) (by kernel_rfl) (by kernel_rfl) (by kernel_rfl) fun w57 hT58 hh59 => ?_
  have hT0 := hT0.t0 hT58
  have hL := hL.tch0 hT58
  have hP := hP.tch0 hT58
  have hM := hM.tch0 hT58
  have hB4 := hB4.tch0 hT58
  have hB10 := hB10.tch0 hT58
  have hB45 := hB45.tch0 hT58
  refine zK [0, 4, 1, 2] #[true, true, true, false, true, false, false, false] [(19, .pointer (some ⟨f, 0, none⟩)), (23, .pointer (some ⟨w.heap.size, 2, none⟩)), (20, .pointer (some ⟨f, 0, none⟩)), (21, .pointer (some ⟨f, 0, none⟩))] ⟨hM, hP, hB4⟩ ?_
  refine zV 3 rfl (.pointer (some ⟨p, 0, none⟩)) (fun _ ⟨hM, hP, hB4⟩ => R_load (v := .pointer (some ⟨p, 0, none⟩)) (by kernel_rfl) (by kernel_rfl) ((hP.cell 0).trans rfl)) ⟨hM, hP, hB4⟩ ?_
  refine zV 5 rfl (.int .i64 xa) (fun _ ⟨hM, hP, hB4⟩ => R_load (v := .int .i64 xa) (by kernel_rfl) (by kernel_rfl) ((hB4.cell 2).trans rfl)) ⟨hM, hP, hB4⟩ ?_
  refine zD 6 rfl (S_call (args := [.pointer (some ⟨p, 0, none⟩), .int .i64 xa]) (by kernel_rfl) (width_ok F p most N W xa _ hL hN) ?_)
  rintro _ w60 ⟨rfl, hT61⟩
  have hT0 := hT0.t0 hT61
  have hL := hL.tch0 hT61
  have hP := hP.tch0 hT61
  have hM := hM.tch0 hT61
  have hB4 := hB4.tch0 hT61
  have hB10 := hB10.tch0 hT61
  have hB45 := hB45.tch0 hT61
  refine ⟨⟨hM, hP, hB4⟩, ?_⟩
  refine zK [7] #[true, true, true, true, true, true, true, true] [(6, .int .i64 (widF N xa))] ⟨hM, hP, hB4⟩ ?_
  refine d_done (by kernel_rfl) ?_
  refine W_seq ?_
  refine zQ ?_
  refine zS [(26, .pointer (some ⟨w.heap.size, 0, none⟩))] ?_
  refine zL (.int .i64 20) ((hB4.cell 0).trans rfl) ?_
  refine op_nil ?_
  refine W_block ?_
  refine zQ ?_
  refine zS [(29, .bool true), (28, .bool true)] ?_
  refine zO true (fun _ => ?_) (fun h => nomatch h)
  refine zQ ?_
  refine zS [(30, .pointer (some ⟨w.heap.size, 5, none⟩))] ?_
  refine zL (.int .u64 ((V : Nat) : Int)) ((hB4.cell 5).trans rfl) ?_
  refine zS [(32, .pointer (some ⟨w.heap.size, 5, none⟩))] ?_
  refine zL (.int .u64 ((V : Nat) : Int)) ((hB4.cell 5).trans rfl) ?_
  refine zS [(34, .agg #[.int .u64 ((V : Nat) : Int), .int .u64 ((V : Nat) : Int)])] ?_
  refine st (by rfl) (S_storeA (b := w1.heap.size) (j := 0) (cs := [.int .u64 ((V : Nat) : Int), .int .u64 ((V : Nat) : Int)]) (by kernel_rfl) (by kernel_rfl) (by kernel_rfl) (by simp [oneV]) hB10 (by simp) fun w62 hT63 hs64 hB10' => ?_)
  have hT0 := (hT0).then hT63 (fun c e => by have : c = w1.heap.size := e; omega)
  have hL := hL.tchS hT63 (fun c e q => by cases e; exact nF_hB10 q)
  have hP := hP.tch hT63 (hP.ne hB10 (by decide))
  have hM := hM.tch hT63 (fun e => hM.ne hB10 e)
  have hB4 := hB4.tch hT63 (hB4.ne hB10 (by decide))
  have hB45 := hB45.tch hT63 (fun e => by have : w16.heap.size = w1.heap.size := e; omega)
  replace hB10 : Blk w62 w1.heap.size 113 [.int .u64 ((V : Nat) : Int), .int .u64 ((V : Nat) : Int)] := hB10'
  refine op_nil ?_
  refine W_ret ?_
  exact ⟨_, Res_cell (b := w1.heap.size) (cs := [.int .u64 ((V : Nat) : Int), .int .u64 ((V : Nat) : Int)]) (by rfl) (by kernel_rfl) (by kernel_rfl) hB10 (by kernel_rfl) (by kernel_rfl), ⟨by kernel_rfl, hT0⟩⟩

set_option maxRecDepth 100000 in
theorem sp21_ok (F : Nat → Prop) (p : Nat) (most : Int) (N : List Nd) (W : Value → Value → Prop) (f k mb : Nat) (l : List K) (nw wd up : Nat) (xa xb xc xv : Int) (x y z : K) (lo V : Nat) (w : World) (hL : TLow F w p most N W) (hN : N.length ≤ 65536) (hP : Blk w f 111 [.pointer (some ⟨p, 0, none⟩), .map (some mb)]) (hM : MapE Try.prog 3 w mb (spR l)) (hlk : l.length = k) (hk6 : k ≤ 65536) (hxa : b64 xa) (hnw : nw ≤ 64) : Ret Try.prog 54 [.pointer (some ⟨f, 0, none⟩), .agg #[.int .i64 21, .int .i64 ((nw : Nat) : Int), .int .i64 xa, .int .i64 xb, .int .i64 xc, .int .u64 xv]] w fun v w' => v = .agg #[.int .u64 (((rone 21 nw wd up x y z lo V).1 : Nat) : Int), .int .u64 (((rone 21 nw wd up x y z lo V).2 : Nat) : Int)] ∧ Tch N0 w w' := by
 have hMl := hM.lt
 refine enter Try.func54 rfl rfl ?_
 refine zQ ?_
 have hlt_ := hL.lt
 have lt5 := hP.lt
 have l6 := hP.lt
 refine st (by rfl) (S_new (v := .pointer (some ⟨w.heap.size, 0, none⟩)) (ob := .cells #[.int .i64 21, .int .i64 ((nw : Nat) : Int), .int .i64 xa, .int .i64 xb, .int .i64 xc, .int .u64 xv] 32) (by kernel_rfl) fun w1 hT2 hs3 hB4 => ?_)
 replace hB4 : Blk w1 (w.heap.size) 32 [.int .i64 21, .int .i64 ((nw : Nat) : Int), .int .i64 xa, .int .i64 xb, .int .i64 xc, .int .u64 xv] := hB4
 have hT0 := hT2
 have hL := hL.tch0 hT2
 have hP := hP.tch0 hT2
 have hM := hM.tch0 hT2
 have nF_hB4 : ¬ F (w.heap.size) := fun e => by have := hlt_ _ e; omega
 have hlt_ := hL.lt
 have lt11 := hP.lt
 have lt12 := hB4.lt
 have z13 := hT0.size
 have l14 := hP.lt
 have l15 := hB4.lt
 refine st (by rfl) (S_new (v := .pointer (some ⟨w1.heap.size, 0, none⟩)) (ob := .cells #[.int .u64 0, .int .u64 0] 113) (by kernel_rfl) fun w7 hT8 hs9 hB10 => ?_)
 replace hB10 : Blk w7 (w1.heap.size) 113 [.int .u64 0, .int .u64 0] := hB10
 have hT0 := hT0.t0 hT8
 have hL := hL.tch0 hT8
 have hP := hP.tch0 hT8
 have hM := hM.tch0 hT8
 have hB4 := hB4.tch0 hT8
 have nF_hB10 : ¬ F (w1.heap.size) := fun e => by have := hlt_ _ e; omega
 refine op_nil ?_
 refine W_seq ?_
 refine W_draw (fun w' => MapE Try.prog 3 w' mb (spR l) ∧ Blk w' (f) 111 [.pointer (some ⟨p, 0, none⟩), .map (some mb)] ∧ Blk w' (w.heap.size) 32 [.int .i64 21, .int .i64 ((nw : Nat) : Int), .int .i64 xa, .int .i64 xb, .int .i64 xc, .int .u64 xv]) (by kernel_rfl) (by kernel_rfl) (by kernel_rfl) fun w16 hT17 hh18 => ?_
 have hT0 := hT0.t0 hT17
 have hL := hL.tch0 hT17
 have hP := hP.tch0 hT17
 have hM := hM.tch0 hT17
 have hB4 := hB4.tch0 hT17
 have hB10 := hB10.tch0 hT17
 refine zK [0, 4, 1, 2] #[true, true, true, false, true, false, false, false, false] [(12, .pointer (some ⟨f, 0, none⟩)), (16, .pointer (some ⟨w.heap.size, 2, none⟩)), (13, .pointer (some ⟨f, 0, none⟩)), (14, .pointer (some ⟨f, 1, none⟩))] ⟨hM, hP, hB4⟩ ?_
 refine zV 3 rfl (.map (some mb)) (fun _ ⟨hM, hP, hB4⟩ => R_load (v := .map (some mb)) (by kernel_rfl) (by kernel_rfl) ((hP.cell 1).trans rfl)) ⟨hM, hP, hB4⟩ ?_
 refine zV 5 rfl (.int .i64 xa) (fun _ ⟨hM, hP, hB4⟩ => R_load (v := .int .i64 xa) (by kernel_rfl) (by kernel_rfl) ((hB4.cell 2).trans rfl)) ⟨hM, hP, hB4⟩ ?_
 refine d_two 6 7 (by kernel_rfl) (by rfl) (by rfl) (by kernel_rfl) (by kernel_rfl) ?_ ?_
 ·
  refine (S_lookupE false 3 113 (kV (0, 0)) key_law3 (by kernel_rfl) (by kernel_rfl) (by kernel_rfl) (by kernel_rfl) (key_int (x := xa) (by unfold b64 at *; omega)) hM fun vz ok hv => ?_)
  obtain ⟨z19, rfl⟩ := look_any hv
  refine ⟨⟨hM, hP, hB4⟩, ?_⟩
  have hlt_ := hL.lt
  have lt24 := hP.lt
  have lt25 := hB4.lt
  have lt26 := hB10.lt
  have z27 := hT0.size
  have l28 := hP.lt
  have l29 := hB4.lt
  have l30 := hB10.lt
  refine zD 7 rfl (S_new (v := .pointer (some ⟨w16.heap.size, 0, none⟩)) (ob := .cells #[.int .u64 0, .int .u64 0] 113) (by kernel_rfl) fun w20 hT21 hs22 hB23 => ?_)
  replace hB23 : Blk w20 (w16.heap.size) 113 [.int .u64 0, .int .u64 0] := hB23
  have hT0 := hT0.t0 hT21
  have hL := hL.tch0 hT21
  have hP := hP.tch0 hT21
  have hM := hM.tch0 hT21
  have hB4 := hB4.tch0 hT21
  have hB10 := hB10.tch0 hT21
  have nF_hB23 : ¬ F (w16.heap.size) := fun e => by have := hlt_ _ e; omega
  refine ⟨⟨hM, hP, hB4⟩, ?_⟩
  refine zD 8 rfl (S_storeA (b := w16.heap.size) (j := 0) (cs := [.int .u64 ((z19.1 : Nat) : Int), .int .u64 ((z19.2 : Nat) : Int)]) (by kernel_rfl) (by kernel_rfl) (by kernel_rfl) (by simp [oneV]) hB23 (by simp) fun w31 hT32 hs33 hB23' => ?_)
  have hT0 := (hT0).then hT32 (fun c e => by have : c = w16.heap.size := e; omega)
  have hL := hL.tchS hT32 (fun c e q => by cases e; exact nF_hB23 q)
  have hP := hP.tch hT32 (hP.ne hB23 (by decide))
  have hM := hM.tch hT32 (fun e => hM.ne hB23 e)
  have hB4 := hB4.tch hT32 (hB4.ne hB23 (by decide))
  have hB10 := hB10.tch hT32 (fun e => by have : w1.heap.size = w16.heap.size := e; omega)
  replace hB23 : Blk w31 w16.heap.size 113 [.int .u64 ((z19.1 : Nat) : Int), .int .u64 ((z19.2 : Nat) : Int)] := hB23'
  refine ⟨⟨hM, hP, hB4⟩, ?_⟩
  refine d_done (by kernel_rfl) ?_
  refine W_seq ?_
  refine W_draw (fun w' => MapE Try.prog 3 w' mb (spR l) ∧ Blk w' (f) 111 [.pointer (some ⟨p, 0, none⟩), .map (some mb)] ∧ Blk w' (w.heap.size) 32 [.int .i64 21, .int .i64 ((nw : Nat) : Int), .int .i64 xa, .int .i64 xb, .int .i64 xc, .int .u64 xv]) (by kernel_rfl) (by kernel_rfl) (by kernel_rfl) fun w34 hT35 hh36 => ?_
  have hT0 := hT0.t0 hT35
  have hL := hL.tch0 hT35
  have hP := hP.tch0 hT35
  have hM := hM.tch0 hT35
  have hB4 := hB4.tch0 hT35
  have hB10 := hB10.tch0 hT35
  have hB23 := hB23.tch0 hT35
  refine zK [0, 4, 1, 2] #[true, true, true, false, true, false, false, false] [(19, .pointer (some ⟨f, 0, none⟩)), (23, .pointer (some ⟨w.heap.size, 2, none⟩)), (20, .pointer (some ⟨f, 0, none⟩)), (21, .pointer (some ⟨f, 0, none⟩))] ⟨hM, hP, hB4⟩ ?_
  refine zV 3 rfl (.pointer (some ⟨p, 0, none⟩)) (fun _ ⟨hM, hP, hB4⟩ => R_load (v := .pointer (some ⟨p, 0, none⟩)) (by kernel_rfl) (by kernel_rfl) ((hP.cell 0).trans rfl)) ⟨hM, hP, hB4⟩ ?_
  refine zV 5 rfl (.int .i64 xa) (fun _ ⟨hM, hP, hB4⟩ => R_load (v := .int .i64 xa) (by kernel_rfl) (by kernel_rfl) ((hB4.cell 2).trans rfl)) ⟨hM, hP, hB4⟩ ?_
  refine zD 6 rfl (S_call (args := [.pointer (some ⟨p, 0, none⟩), .int .i64 xa]) (by kernel_rfl) (width_ok F p most N W xa _ hL hN) ?_)
  rintro _ w37 ⟨rfl, hT38⟩
  have hT0 := hT0.t0 hT38
  have hL := hL.tch0 hT38
  have hP := hP.tch0 hT38
  have hM := hM.tch0 hT38
  have hB4 := hB4.tch0 hT38
  have hB10 := hB10.tch0 hT38
  have hB23 := hB23.tch0 hT38
  refine ⟨⟨hM, hP, hB4⟩, ?_⟩
  refine zK [7] #[true, true, true, true, true, true, true, true] [(6, .int .i64 (widF N xa))] ⟨hM, hP, hB4⟩ ?_
  refine d_done (by kernel_rfl) ?_
  refine W_seq ?_
  refine zQ ?_
  refine zS [(26, .pointer (some ⟨w.heap.size, 0, none⟩))] ?_
  refine zL (.int .i64 21) ((hB4.cell 0).trans rfl) ?_
  refine op_nil ?_
  refine W_block ?_
  refine zQ ?_
  refine zS [(29, .bool false), (28, .bool false)] ?_
  refine zO false (fun h => nomatch h) (fun _ => ?_)
  refine W_seq ?_
  refine zQ ?_
  refine zS [(36, .bool true), (35, .bool true)] ?_
  refine zO true (fun _ => ?_) (fun h => nomatch h)
  refine W_skip ?_
  refine zW true (fun _ => ?_) (fun h => nomatch h)
  refine zQ ?_
  refine zS [(38, .pointer (some ⟨w.heap.size, 1, none⟩))] ?_
  refine zL (.int .i64 ((nw : Nat) : Int)) ((hB4.cell 1).trans rfl) ?_
  refine zC (all_ok nw _ (by omega)) ?_
  rintro _ w39 ⟨rfl, hT40⟩
  have hT0 := hT0.t0 hT40
  have hL := hL.tch0 hT40
  have hP := hP.tch0 hT40
  have hM := hM.tch0 hT40
  have hB4 := hB4.tch0 hT40
  have hB10 := hB10.tch0 hT40
  have hB23 := hB23.tch0 hT40
  refine st (by rfl) (S_storeA (b := w1.heap.size) (j := 0) (cs := [.int .u64 (((rall nw).1 : Nat) : Int), .int .u64 (((rall nw).2 : Nat) : Int)]) (by kernel_rfl) (by kernel_rfl) (by kernel_rfl) (by simp [oneV]) hB10 (by simp) fun w41 hT42 hs43 hB10' => ?_)
  have hT0 := (hT0).then hT42 (fun c e => by have : c = w1.heap.size := e; omega)
  have hL := hL.tchS hT42 (fun c e q => by cases e; exact nF_hB10 q)
  have hP := hP.tch hT42 (hP.ne hB10 (by decide))
  have hM := hM.tch hT42 (fun e => hM.ne hB10 e)
  have hB4 := hB4.tch hT42 (hB4.ne hB10 (by decide))
  have hB23 := hB23.tch hT42 (fun e => by have : w16.heap.size = w1.heap.size := e; omega)
  replace hB10 : Blk w41 w1.heap.size 113 [.int .u64 (((rall nw).1 : Nat) : Int), .int .u64 (((rall nw).2 : Nat) : Int)] := hB10'
  refine op_nil ?_
  refine W_ret ?_
  exact ⟨_, Res_cell (b := w1.heap.size) (cs := [.int .u64 (((rall nw).1 : Nat) : Int), .int .u64 (((rall nw).2 : Nat) : Int)]) (by rfl) (by kernel_rfl) (by kernel_rfl) hB10 (by kernel_rfl) (by kernel_rfl), ⟨by kernel_rfl, hT0⟩⟩
 ·
  have hlt_ := hL.lt
  have lt48 := hP.lt
  have lt49 := hB4.lt
  have lt50 := hB10.lt
  have z51 := hT0.size
  have l52 := hP.lt
  have l53 := hB4.lt
  have l54 := hB10.lt
  refine (S_new (v := .pointer (some ⟨w16.heap.size, 0, none⟩)) (ob := .cells #[.int .u64 0, .int .u64 0] 113) (by kernel_rfl) fun w44 hT45 hs46 hB47 => ?_)
  replace hB47 : Blk w44 (w16.heap.size) 113 [.int .u64 0, .int .u64 0] := hB47
  have hT0 := hT0.t0 hT45
  have hL := hL.tch0 hT45
  have hP := hP.tch0 hT45
  have hM := hM.tch0 hT45
  have hB4 := hB4.tch0 hT45
  have hB10 := hB10.tch0 hT45
  have nF_hB47 : ¬ F (w16.heap.size) := fun e => by have := hlt_ _ e; omega
  refine ⟨⟨hM, hP, hB4⟩, ?_⟩
  refine zD 6 rfl (S_lookupE false 3 113 (kV (0, 0)) key_law3 (by kernel_rfl) (by kernel_rfl) (by kernel_rfl) (by kernel_rfl) (key_int (x := xa) (by unfold b64 at *; omega)) hM fun vz ok hv => ?_)
  obtain ⟨z55, rfl⟩ := look_any hv
  refine ⟨⟨hM, hP, hB4⟩, ?_⟩
  refine zD 8 rfl (S_storeA (b := w16.heap.size) (j := 0) (cs := [.int .u64 ((z55.1 : Nat) : Int), .int .u64 ((z55.2 : Nat) : Int)]) (by kernel_rfl) (by kernel_rfl) (by kernel_rfl) (by simp [oneV]) hB47 (by simp) fun w56 hT57 hs58 hB47' => ?_)
  have hT0 := (hT0).then hT57 (fun c e => by have : c = w16.heap.size := e; omega)
  have hL := hL.tchS hT57 (fun c e q => by cases e; exact nF_hB47 q)
  have hP := hP.tch hT57 (hP.ne hB47 (by decide))
  have hM := hM.tch hT57 (fun e => hM.ne hB47 e)
  have hB4 := hB4.tch hT57 (hB4.ne hB47 (by decide))
  have hB10 := hB10.tch hT57 (fun e => by have : w1.heap.size = w16.heap.size := e; omega)
  replace hB47 : Blk w56 w16.heap.size 113 [.int .u64 ((z55.1 : Nat) : Int), .int .u64 ((z55.2 : Nat) : Int)] := hB47'
  refine ⟨⟨hM, hP, hB4⟩, ?_⟩
  refine d_done (by kernel_rfl) ?_
  refine W_seq ?_
  refine W_draw (fun w' => MapE Try.prog 3 w' mb (spR l) ∧ Blk w' (f) 111 [.pointer (some ⟨p, 0, none⟩), .map (some mb)] ∧ Blk w' (w.heap.size) 32 [.int .i64 21, .int .i64 ((nw : Nat) : Int), .int .i64 xa, .int .i64 xb, .int .i64 xc, .int .u64 xv]) (by kernel_rfl) (by kernel_rfl) (by kernel_rfl) fun w59 hT60 hh61 => ?_
  have hT0 := hT0.t0 hT60
  have hL := hL.tch0 hT60
  have hP := hP.tch0 hT60
  have hM := hM.tch0 hT60
  have hB4 := hB4.tch0 hT60
  have hB10 := hB10.tch0 hT60
  have hB47 := hB47.tch0 hT60
  refine zK [0, 4, 1, 2] #[true, true, true, false, true, false, false, false] [(19, .pointer (some ⟨f, 0, none⟩)), (23, .pointer (some ⟨w.heap.size, 2, none⟩)), (20, .pointer (some ⟨f, 0, none⟩)), (21, .pointer (some ⟨f, 0, none⟩))] ⟨hM, hP, hB4⟩ ?_
  refine zV 3 rfl (.pointer (some ⟨p, 0, none⟩)) (fun _ ⟨hM, hP, hB4⟩ => R_load (v := .pointer (some ⟨p, 0, none⟩)) (by kernel_rfl) (by kernel_rfl) ((hP.cell 0).trans rfl)) ⟨hM, hP, hB4⟩ ?_
  refine zV 5 rfl (.int .i64 xa) (fun _ ⟨hM, hP, hB4⟩ => R_load (v := .int .i64 xa) (by kernel_rfl) (by kernel_rfl) ((hB4.cell 2).trans rfl)) ⟨hM, hP, hB4⟩ ?_
  refine zD 6 rfl (S_call (args := [.pointer (some ⟨p, 0, none⟩), .int .i64 xa]) (by kernel_rfl) (width_ok F p most N W xa _ hL hN) ?_)
  rintro _ w62 ⟨rfl, hT63⟩
  have hT0 := hT0.t0 hT63
  have hL := hL.tch0 hT63
  have hP := hP.tch0 hT63
  have hM := hM.tch0 hT63
  have hB4 := hB4.tch0 hT63
  have hB10 := hB10.tch0 hT63
  have hB47 := hB47.tch0 hT63
  refine ⟨⟨hM, hP, hB4⟩, ?_⟩
  refine zK [7] #[true, true, true, true, true, true, true, true] [(6, .int .i64 (widF N xa))] ⟨hM, hP, hB4⟩ ?_
  refine d_done (by kernel_rfl) ?_
  refine W_seq ?_
  refine zQ ?_
  refine zS [(26, .pointer (some ⟨w.heap.size, 0, none⟩))] ?_
  refine zL (.int .i64 21) ((hB4.cell 0).trans rfl) ?_
  refine op_nil ?_
  refine W_block ?_
  refine zQ ?_
  refine zS [(29, .bool false), (28, .bool false)] ?_
  refine zO false (fun h => nomatch h) (fun _ => ?_)
  refine W_seq ?_
  refine zQ ?_
  refine zS [(36, .bool true), (35, .bool true)] ?_
  refine zO true (fun _ => ?_) (fun h => nomatch h)
  refine W_skip ?_
  refine zW true (fun _ => ?_) (fun h => nomatch h)
  refine zQ ?_
  refine zS [(38, .pointer (some ⟨w.heap.size, 1, none⟩))] ?_
  refine zL (.int .i64 ((nw : Nat) : Int)) ((hB4.cell 1).trans rfl) ?_
  refine zC (all_ok nw _ (by omega)) ?_
  rintro _ w64 ⟨rfl, hT65⟩
  have hT0 := hT0.t0 hT65
  have hL := hL.tch0 hT65
  have hP := hP.tch0 hT65
  have hM := hM.tch0 hT65
  have hB4 := hB4.tch0 hT65
  have hB10 := hB10.tch0 hT65
  have hB47 := hB47.tch0 hT65
  refine st (by rfl) (S_storeA (b := w1.heap.size) (j := 0) (cs := [.int .u64 (((rall nw).1 : Nat) : Int), .int .u64 (((rall nw).2 : Nat) : Int)]) (by kernel_rfl) (by kernel_rfl) (by kernel_rfl) (by simp [oneV]) hB10 (by simp) fun w66 hT67 hs68 hB10' => ?_)
  have hT0 := (hT0).then hT67 (fun c e => by have : c = w1.heap.size := e; omega)
  have hL := hL.tchS hT67 (fun c e q => by cases e; exact nF_hB10 q)
  have hP := hP.tch hT67 (hP.ne hB10 (by decide))
  have hM := hM.tch hT67 (fun e => hM.ne hB10 e)
  have hB4 := hB4.tch hT67 (hB4.ne hB10 (by decide))
  have hB47 := hB47.tch hT67 (fun e => by have : w16.heap.size = w1.heap.size := e; omega)
  replace hB10 : Blk w66 w1.heap.size 113 [.int .u64 (((rall nw).1 : Nat) : Int), .int .u64 (((rall nw).2 : Nat) : Int)] := hB10'
  refine op_nil ?_
  refine W_ret ?_
  exact ⟨_, Res_cell (b := w1.heap.size) (cs := [.int .u64 (((rall nw).1 : Nat) : Int), .int .u64 (((rall nw).2 : Nat) : Int)]) (by rfl) (by kernel_rfl) (by kernel_rfl) hB10 (by kernel_rfl) (by kernel_rfl), ⟨by kernel_rfl, hT0⟩⟩

set_option maxRecDepth 100000 in
theorem sp16_ok (F : Nat → Prop) (p : Nat) (most : Int) (N : List Nd) (W : Value → Value → Prop) (f k mb : Nat) (l : List K) (nw wd up a : Nat) (xb xc xv : Int) (y z : K) (lo V : Nat) (w : World) (hL : TLow F w p most N W) (hN : N.length ≤ 65536) (hP : Blk w f 111 [.pointer (some ⟨p, 0, none⟩), .map (some mb)]) (hM : MapE Try.prog 3 w mb (spR l)) (hlk : l.length = k) (hk6 : k ≤ 65536) (ha : a < k) (hwa : widF N ((a : Nat) : Int) = ((wd : Nat) : Int)) (hxa : RI wd (kg l a)) (hw : wd ≤ 64) (hnw : nw ≤ 64) : Ret Try.prog 54 [.pointer (some ⟨f, 0, none⟩), .agg #[.int .i64 16, .int .i64 ((nw : Nat) : Int), .int .i64 ((a : Nat) : Int), .int .i64 xb, .int .i64 xc, .int .u64 xv]] w fun v w' => v = .agg #[.int .u64 (((rone 16 nw wd up (kg l a) y z lo V).1 : Nat) : Int), .int .u64 (((rone 16 nw wd up (kg l a) y z lo V).2 : Nat) : Int)] ∧ Tch N0 w w' := by
 have hMl := hM.lt
 have hla1 := hxa.1
 have hla2 := hxa.2
 have ua1 := hxa.u1 (show wd ≤ 64 by omega)
 have ua2 := hxa.u2 (show wd ≤ 64 by omega)
 refine enter Try.func54 rfl rfl ?_
 refine zQ ?_
 have hlt_ := hL.lt
 have lt5 := hP.lt
 have l6 := hP.lt
 refine st (by rfl) (S_new (v := .pointer (some ⟨w.heap.size, 0, none⟩)) (ob := .cells #[.int .i64 16, .int .i64 ((nw : Nat) : Int), .int .i64 ((a : Nat) : Int), .int .i64 xb, .int .i64 xc, .int .u64 xv] 32) (by kernel_rfl) fun w1 hT2 hs3 hB4 => ?_)
 replace hB4 : Blk w1 (w.heap.size) 32 [.int .i64 16, .int .i64 ((nw : Nat) : Int), .int .i64 ((a : Nat) : Int), .int .i64 xb, .int .i64 xc, .int .u64 xv] := hB4
 have hT0 := hT2
 have hL := hL.tch0 hT2
 have hP := hP.tch0 hT2
 have hM := hM.tch0 hT2
 have nF_hB4 : ¬ F (w.heap.size) := fun e => by have := hlt_ _ e; omega
 have hlt_ := hL.lt
 have lt11 := hP.lt
 have lt12 := hB4.lt
 have z13 := hT0.size
 have l14 := hP.lt
 have l15 := hB4.lt
 refine st (by rfl) (S_new (v := .pointer (some ⟨w1.heap.size, 0, none⟩)) (ob := .cells #[.int .u64 0, .int .u64 0] 113) (by kernel_rfl) fun w7 hT8 hs9 hB10 => ?_)
 replace hB10 : Blk w7 (w1.heap.size) 113 [.int .u64 0, .int .u64 0] := hB10
 have hT0 := hT0.t0 hT8
 have hL := hL.tch0 hT8
 have hP := hP.tch0 hT8
 have hM := hM.tch0 hT8
 have hB4 := hB4.tch0 hT8
 have nF_hB10 : ¬ F (w1.heap.size) := fun e => by have := hlt_ _ e; omega
 refine op_nil ?_
 refine W_seq ?_
 refine W_draw (fun w' => MapE Try.prog 3 w' mb (spR l) ∧ Blk w' (f) 111 [.pointer (some ⟨p, 0, none⟩), .map (some mb)] ∧ Blk w' (w.heap.size) 32 [.int .i64 16, .int .i64 ((nw : Nat) : Int), .int .i64 ((a : Nat) : Int), .int .i64 xb, .int .i64 xc, .int .u64 xv]) (by kernel_rfl) (by kernel_rfl) (by kernel_rfl) fun w16 hT17 hh18 => ?_
 have hT0 := hT0.t0 hT17
 have hL := hL.tch0 hT17
 have hP := hP.tch0 hT17
 have hM := hM.tch0 hT17
 have hB4 := hB4.tch0 hT17
 have hB10 := hB10.tch0 hT17
 refine zK [0, 4, 1, 2] #[true, true, true, false, true, false, false, false, false] [(12, .pointer (some ⟨f, 0, none⟩)), (16, .pointer (some ⟨w.heap.size, 2, none⟩)), (13, .pointer (some ⟨f, 0, none⟩)), (14, .pointer (some ⟨f, 1, none⟩))] ⟨hM, hP, hB4⟩ ?_
 refine zV 3 rfl (.map (some mb)) (fun _ ⟨hM, hP, hB4⟩ => R_load (v := .map (some mb)) (by kernel_rfl) (by kernel_rfl) ((hP.cell 1).trans rfl)) ⟨hM, hP, hB4⟩ ?_
 refine zV 5 rfl (.int .i64 ((a : Nat) : Int)) (fun _ ⟨hM, hP, hB4⟩ => R_load (v := .int .i64 ((a : Nat) : Int)) (by kernel_rfl) (by kernel_rfl) ((hB4.cell 2).trans rfl)) ⟨hM, hP, hB4⟩ ?_
 refine zV 6 rfl (kV (kg l a)) (fun _ ⟨hM, hP, hB4⟩ => R_lookSp l a (by kernel_rfl) (by kernel_rfl) (by kernel_rfl) hM (by omega) (by unfold b64; omega)) ⟨hM, hP, hB4⟩ ?_
 have hlt_ := hL.lt
 have lt23 := hP.lt
 have lt24 := hB4.lt
 have lt25 := hB10.lt
 have z26 := hT0.size
 have l27 := hP.lt
 have l28 := hB4.lt
 have l29 := hB10.lt
 refine zD 7 rfl (S_new (v := .pointer (some ⟨w16.heap.size, 0, none⟩)) (ob := .cells #[.int .u64 0, .int .u64 0] 113) (by kernel_rfl) fun w19 hT20 hs21 hB22 => ?_)
 replace hB22 : Blk w19 (w16.heap.size) 113 [.int .u64 0, .int .u64 0] := hB22
 have hT0 := hT0.t0 hT20
 have hL := hL.tch0 hT20
 have hP := hP.tch0 hT20
 have hM := hM.tch0 hT20
 have hB4 := hB4.tch0 hT20
 have hB10 := hB10.tch0 hT20
 have nF_hB22 : ¬ F (w16.heap.size) := fun e => by have := hlt_ _ e; omega
 refine ⟨⟨hM, hP, hB4⟩, ?_⟩
 refine zD 8 rfl (S_storeA (b := w16.heap.size) (j := 0) (cs := [.int .u64 (((kg l a).1 : Nat) : Int), .int .u64 (((kg l a).2 : Nat) : Int)]) (by kernel_rfl) (by kernel_rfl) (by kernel_rfl) (by simp [oneV]) hB22 (by simp) fun w30 hT31 hs32 hB22' => ?_)
 have hT0 := (hT0).then hT31 (fun c e => by have : c = w16.heap.size := e; omega)
 have hL := hL.tchS hT31 (fun c e q => by cases e; exact nF_hB22 q)
 have hP := hP.tch hT31 (hP.ne hB22 (by decide))
 have hM := hM.tch hT31 (fun e => hM.ne hB22 e)
 have hB4 := hB4.tch hT31 (hB4.ne hB22 (by decide))
 have hB10 := hB10.tch hT31 (fun e => by have : w1.heap.size = w16.heap.size := e; omega)
 replace hB22 : Blk w30 w16.heap.size 113 [.int .u64 (((kg l a).1 : Nat) : Int), .int .u64 (((kg l a).2 : Nat) : Int)] := hB22'
 refine ⟨⟨hM, hP, hB4⟩, ?_⟩
 refine d_done (by kernel_rfl) ?_
 refine W_seq ?_
 refine W_draw (fun w' => MapE Try.prog 3 w' mb (spR l) ∧ Blk w' (f) 111 [.pointer (some ⟨p, 0, none⟩), .map (some mb)] ∧ Blk w' (w.heap.size) 32 [.int .i64 16, .int .i64 ((nw : Nat) : Int), .int .i64 ((a : Nat) : Int), .int .i64 xb, .int .i64 xc, .int .u64 xv]) (by kernel_rfl) (by kernel_rfl) (by kernel_rfl) fun w33 hT34 hh35 => ?_
 have hT0 := hT0.t0 hT34
 have hL := hL.tch0 hT34
 have hP := hP.tch0 hT34
 have hM := hM.tch0 hT34
 have hB4 := hB4.tch0 hT34
 have hB10 := hB10.tch0 hT34
 have hB22 := hB22.tch0 hT34
 refine zK [0, 4, 1, 2] #[true, true, true, false, true, false, false, false] [(19, .pointer (some ⟨f, 0, none⟩)), (23, .pointer (some ⟨w.heap.size, 2, none⟩)), (20, .pointer (some ⟨f, 0, none⟩)), (21, .pointer (some ⟨f, 0, none⟩))] ⟨hM, hP, hB4⟩ ?_
 refine zV 3 rfl (.pointer (some ⟨p, 0, none⟩)) (fun _ ⟨hM, hP, hB4⟩ => R_load (v := .pointer (some ⟨p, 0, none⟩)) (by kernel_rfl) (by kernel_rfl) ((hP.cell 0).trans rfl)) ⟨hM, hP, hB4⟩ ?_
 refine zV 5 rfl (.int .i64 ((a : Nat) : Int)) (fun _ ⟨hM, hP, hB4⟩ => R_load (v := .int .i64 ((a : Nat) : Int)) (by kernel_rfl) (by kernel_rfl) ((hB4.cell 2).trans rfl)) ⟨hM, hP, hB4⟩ ?_
 refine zD 6 rfl (S_call (args := [.pointer (some ⟨p, 0, none⟩), .int .i64 ((a : Nat) : Int)]) (by kernel_rfl) ((by have q := width_ok F p most N W ((a : Nat) : Int) _ hL hN; rw [hwa] at q; exact q)) ?_)
 rintro _ w36 ⟨rfl, hT37⟩
 have hT0 := hT0.t0 hT37
 have hL := hL.tch0 hT37
 have hP := hP.tch0 hT37
 have hM := hM.tch0 hT37
 have hB4 := hB4.tch0 hT37
 have hB10 := hB10.tch0 hT37
 have hB22 := hB22.tch0 hT37
 refine ⟨⟨hM, hP, hB4⟩, ?_⟩
 refine zK [7] #[true, true, true, true, true, true, true, true] [(6, .int .i64 ((wd : Nat) : Int))] ⟨hM, hP, hB4⟩ ?_
 refine d_done (by kernel_rfl) ?_
 refine W_seq ?_
 refine zQ ?_
 refine zS [(26, .pointer (some ⟨w.heap.size, 0, none⟩))] ?_
 refine zL (.int .i64 16) ((hB4.cell 0).trans rfl) ?_
 refine op_nil ?_
 refine W_block ?_
 refine zQ ?_
 refine zS [(29, .bool false), (28, .bool false)] ?_
 refine zO false (fun h => nomatch h) (fun _ => ?_)
 refine W_seq ?_
 refine zQ ?_
 refine zS [(36, .bool false), (35, .bool false)] ?_
 refine zO false (fun h => nomatch h) (fun _ => ?_)
 refine zR ?_
 refine zS [(37, .bool true), (35, .bool true)] ?_
 refine zO true (fun _ => ?_) (fun h => nomatch h)
 refine zQ ?_
 refine zS [(38, .pointer (some ⟨w.heap.size, 1, none⟩))] ?_
 refine zL (.int .i64 ((nw : Nat) : Int)) ((hB4.cell 1).trans rfl) ?_
 refine zC (all_ok nw _ (by omega)) ?_
 rintro _ w38 ⟨rfl, hT39⟩
 have hT0 := hT0.t0 hT39
 have hL := hL.tch0 hT39
 have hP := hP.tch0 hT39
 have hM := hM.tch0 hT39
 have hB4 := hB4.tch0 hT39
 have hB10 := hB10.tch0 hT39
 have hB22 := hB22.tch0 hT39
 refine st (by rfl) (S_storeA (b := w1.heap.size) (j := 0) (cs := [.int .u64 (((rall nw).1 : Nat) : Int), .int .u64 (((rall nw).2 : Nat) : Int)]) (by kernel_rfl) (by kernel_rfl) (by kernel_rfl) (by simp [oneV]) hB10 (by simp) fun w40 hT41 hs42 hB10' => ?_)
 have hT0 := (hT0).then hT41 (fun c e => by have : c = w1.heap.size := e; omega)
 have hL := hL.tchS hT41 (fun c e q => by cases e; exact nF_hB10 q)
 have hP := hP.tch hT41 (hP.ne hB10 (by decide))
 have hM := hM.tch hT41 (fun e => hM.ne hB10 e)
 have hB4 := hB4.tch hT41 (hB4.ne hB10 (by decide))
 have hB22 := hB22.tch hT41 (fun e => by have : w16.heap.size = w1.heap.size := e; omega)
 replace hB10 : Blk w40 w1.heap.size 113 [.int .u64 (((rall nw).1 : Nat) : Int), .int .u64 (((rall nw).2 : Nat) : Int)] := hB10'
 refine op_nil ?_
 refine W_ret ?_
 exact ⟨_, Res_cell (b := w1.heap.size) (cs := [.int .u64 (((rall nw).1 : Nat) : Int), .int .u64 (((rall nw).2 : Nat) : Int)]) (by rfl) (by kernel_rfl) (by kernel_rfl) hB10 (by kernel_rfl) (by kernel_rfl), ⟨by kernel_rfl, hT0⟩⟩

set_option maxRecDepth 100000 in
theorem sp15_ok (F : Nat → Prop) (p : Nat) (most : Int) (N : List Nd) (W : Value → Value → Prop) (f k mb : Nat) (l : List K) (wd up a : Nat) (xb xc xv : Int) (y z : K) (lo V : Nat) (w : World) (hL : TLow F w p most N W) (hN : N.length ≤ 65536) (hP : Blk w f 111 [.pointer (some ⟨p, 0, none⟩), .map (some mb)]) (hM : MapE Try.prog 3 w mb (spR l)) (hlk : l.length = k) (hk6 : k ≤ 65536) (ha : a < k) (hwa : widF N ((a : Nat) : Int) = ((wd : Nat) : Int)) (hxa : RI wd (kg l a)) (hw : wd ≤ 64) : Ret Try.prog 54 [.pointer (some ⟨f, 0, none⟩), .agg #[.int .i64 15, .int .i64 ((wd : Nat) : Int), .int .i64 ((a : Nat) : Int), .int .i64 xb, .int .i64 xc, .int .u64 xv]] w fun v w' => v = .agg #[.int .u64 (((rone 15 wd wd up (kg l a) y z lo V).1 : Nat) : Int), .int .u64 (((rone 15 wd wd up (kg l a) y z lo V).2 : Nat) : Int)] ∧ Tch N0 w w' := by
 have hMl := hM.lt
 have hla1 := hxa.1
 have hla2 := hxa.2
 have ua1 := hxa.u1 (show wd ≤ 64 by omega)
 have ua2 := hxa.u2 (show wd ≤ 64 by omega)
 have hp64 := pw64 (w := wd) hw
 refine enter Try.func54 rfl rfl ?_
 refine zQ ?_
 have hlt_ := hL.lt
 have lt5 := hP.lt
 have l6 := hP.lt
 refine st (by rfl) (S_new (v := .pointer (some ⟨w.heap.size, 0, none⟩)) (ob := .cells #[.int .i64 15, .int .i64 ((wd : Nat) : Int), .int .i64 ((a : Nat) : Int), .int .i64 xb, .int .i64 xc, .int .u64 xv] 32) (by kernel_rfl) fun w1 hT2 hs3 hB4 => ?_)
 replace hB4 : Blk w1 (w.heap.size) 32 [.int .i64 15, .int .i64 ((wd : Nat) : Int), .int .i64 ((a : Nat) : Int), .int .i64 xb, .int .i64 xc, .int .u64 xv] := hB4
 have hT0 := hT2
 have hL := hL.tch0 hT2
 have hP := hP.tch0 hT2
 have hM := hM.tch0 hT2
 have nF_hB4 : ¬ F (w.heap.size) := fun e => by have := hlt_ _ e; omega
 have hlt_ := hL.lt
 have lt11 := hP.lt
 have lt12 := hB4.lt
 have z13 := hT0.size
 have l14 := hP.lt
 have l15 := hB4.lt
 refine st (by rfl) (S_new (v := .pointer (some ⟨w1.heap.size, 0, none⟩)) (ob := .cells #[.int .u64 0, .int .u64 0] 113) (by kernel_rfl) fun w7 hT8 hs9 hB10 => ?_)
 replace hB10 : Blk w7 (w1.heap.size) 113 [.int .u64 0, .int .u64 0] := hB10
 have hT0 := hT0.t0 hT8
 have hL := hL.tch0 hT8
 have hP := hP.tch0 hT8
 have hM := hM.tch0 hT8
 have hB4 := hB4.tch0 hT8
 have nF_hB10 : ¬ F (w1.heap.size) := fun e => by have := hlt_ _ e; omega
 refine op_nil ?_
 refine W_seq ?_
 refine W_draw (fun w' => MapE Try.prog 3 w' mb (spR l) ∧ Blk w' (f) 111 [.pointer (some ⟨p, 0, none⟩), .map (some mb)] ∧ Blk w' (w.heap.size) 32 [.int .i64 15, .int .i64 ((wd : Nat) : Int), .int .i64 ((a : Nat) : Int), .int .i64 xb, .int .i64 xc, .int .u64 xv]) (by kernel_rfl) (by kernel_rfl) (by kernel_rfl) fun w16 hT17 hh18 => ?_
 have hT0 := hT0.t0 hT17
 have hL := hL.tch0 hT17
 have hP := hP.tch0 hT17
 have hM := hM.tch0 hT17
 have hB4 := hB4.tch0 hT17
 have hB10 := hB10.tch0 hT17
 refine zK [0, 4, 1, 2] #[true, true, true, false, true, false, false, false, false] [(12, .pointer (some ⟨f, 0, none⟩)), (16, .pointer (some ⟨w.heap.size, 2, none⟩)), (13, .pointer (some ⟨f, 0, none⟩)), (14, .pointer (some ⟨f, 1, none⟩))] ⟨hM, hP, hB4⟩ ?_
 refine zV 3 rfl (.map (some mb)) (fun _ ⟨hM, hP, hB4⟩ => R_load (v := .map (some mb)) (by kernel_rfl) (by kernel_rfl) ((hP.cell 1).trans rfl)) ⟨hM, hP, hB4⟩ ?_
 refine zV 5 rfl (.int .i64 ((a : Nat) : Int)) (fun _ ⟨hM, hP, hB4⟩ => R_load (v := .int .i64 ((a : Nat) : Int)) (by kernel_rfl) (by kernel_rfl) ((hB4.cell 2).trans rfl)) ⟨hM, hP, hB4⟩ ?_
 refine zV 6 rfl (kV (kg l a)) (fun _ ⟨hM, hP, hB4⟩ => R_lookSp l a (by kernel_rfl) (by kernel_rfl) (by kernel_rfl) hM (by omega) (by unfold b64; omega)) ⟨hM, hP, hB4⟩ ?_
 have hlt_ := hL.lt
 have lt23 := hP.lt
 have lt24 := hB4.lt
 have lt25 := hB10.lt
 have z26 := hT0.size
 have l27 := hP.lt
 have l28 := hB4.lt
 have l29 := hB10.lt
 refine zD 7 rfl (S_new (v := .pointer (some ⟨w16.heap.size, 0, none⟩)) (ob := .cells #[.int .u64 0, .int .u64 0] 113) (by kernel_rfl) fun w19 hT20 hs21 hB22 => ?_)
 replace hB22 : Blk w19 (w16.heap.size) 113 [.int .u64 0, .int .u64 0] := hB22
 have hT0 := hT0.t0 hT20
 have hL := hL.tch0 hT20
 have hP := hP.tch0 hT20
 have hM := hM.tch0 hT20
 have hB4 := hB4.tch0 hT20
 have hB10 := hB10.tch0 hT20
 have nF_hB22 : ¬ F (w16.heap.size) := fun e => by have := hlt_ _ e; omega
 refine ⟨⟨hM, hP, hB4⟩, ?_⟩
 refine zD 8 rfl (S_storeA (b := w16.heap.size) (j := 0) (cs := [.int .u64 (((kg l a).1 : Nat) : Int), .int .u64 (((kg l a).2 : Nat) : Int)]) (by kernel_rfl) (by kernel_rfl) (by kernel_rfl) (by simp [oneV]) hB22 (by simp) fun w30 hT31 hs32 hB22' => ?_)
 have hT0 := (hT0).then hT31 (fun c e => by have : c = w16.heap.size := e; omega)
 have hL := hL.tchS hT31 (fun c e q => by cases e; exact nF_hB22 q)
 have hP := hP.tch hT31 (hP.ne hB22 (by decide))
 have hM := hM.tch hT31 (fun e => hM.ne hB22 e)
 have hB4 := hB4.tch hT31 (hB4.ne hB22 (by decide))
 have hB10 := hB10.tch hT31 (fun e => by have : w1.heap.size = w16.heap.size := e; omega)
 replace hB22 : Blk w30 w16.heap.size 113 [.int .u64 (((kg l a).1 : Nat) : Int), .int .u64 (((kg l a).2 : Nat) : Int)] := hB22'
 refine ⟨⟨hM, hP, hB4⟩, ?_⟩
 refine d_done (by kernel_rfl) ?_
 refine W_seq ?_
 refine W_draw (fun w' => MapE Try.prog 3 w' mb (spR l) ∧ Blk w' (f) 111 [.pointer (some ⟨p, 0, none⟩), .map (some mb)] ∧ Blk w' (w.heap.size) 32 [.int .i64 15, .int .i64 ((wd : Nat) : Int), .int .i64 ((a : Nat) : Int), .int .i64 xb, .int .i64 xc, .int .u64 xv]) (by kernel_rfl) (by kernel_rfl) (by kernel_rfl) fun w33 hT34 hh35 => ?_
 have hT0 := hT0.t0 hT34
 have hL := hL.tch0 hT34
 have hP := hP.tch0 hT34
 have hM := hM.tch0 hT34
 have hB4 := hB4.tch0 hT34
 have hB10 := hB10.tch0 hT34
 have hB22 := hB22.tch0 hT34
 refine zK [0, 4, 1, 2] #[true, true, true, false, true, false, false, false] [(19, .pointer (some ⟨f, 0, none⟩)), (23, .pointer (some ⟨w.heap.size, 2, none⟩)), (20, .pointer (some ⟨f, 0, none⟩)), (21, .pointer (some ⟨f, 0, none⟩))] ⟨hM, hP, hB4⟩ ?_
 refine zV 3 rfl (.pointer (some ⟨p, 0, none⟩)) (fun _ ⟨hM, hP, hB4⟩ => R_load (v := .pointer (some ⟨p, 0, none⟩)) (by kernel_rfl) (by kernel_rfl) ((hP.cell 0).trans rfl)) ⟨hM, hP, hB4⟩ ?_
 refine zV 5 rfl (.int .i64 ((a : Nat) : Int)) (fun _ ⟨hM, hP, hB4⟩ => R_load (v := .int .i64 ((a : Nat) : Int)) (by kernel_rfl) (by kernel_rfl) ((hB4.cell 2).trans rfl)) ⟨hM, hP, hB4⟩ ?_
 refine zD 6 rfl (S_call (args := [.pointer (some ⟨p, 0, none⟩), .int .i64 ((a : Nat) : Int)]) (by kernel_rfl) ((by have q := width_ok F p most N W ((a : Nat) : Int) _ hL hN; rw [hwa] at q; exact q)) ?_)
 rintro _ w36 ⟨rfl, hT37⟩
 have hT0 := hT0.t0 hT37
 have hL := hL.tch0 hT37
 have hP := hP.tch0 hT37
 have hM := hM.tch0 hT37
 have hB4 := hB4.tch0 hT37
 have hB10 := hB10.tch0 hT37
 have hB22 := hB22.tch0 hT37
 refine ⟨⟨hM, hP, hB4⟩, ?_⟩
 refine zK [7] #[true, true, true, true, true, true, true, true] [(6, .int .i64 ((wd : Nat) : Int))] ⟨hM, hP, hB4⟩ ?_
 refine d_done (by kernel_rfl) ?_
 refine W_seq ?_
 refine zQ ?_
 refine zS [(26, .pointer (some ⟨w.heap.size, 0, none⟩))] ?_
 refine zL (.int .i64 15) ((hB4.cell 0).trans rfl) ?_
 refine op_nil ?_
 refine W_block ?_
 refine zQ ?_
 refine zS [(29, .bool false), (28, .bool false)] ?_
 refine zO false (fun h => nomatch h) (fun _ => ?_)
 refine W_seq ?_
 refine zQ ?_
 refine zS [(36, .bool false), (35, .bool false)] ?_
 refine zO false (fun h => nomatch h) (fun _ => ?_)
 refine zR ?_
 refine zS [(37, .bool false), (35, .bool false)] ?_
 refine zO false (fun h => nomatch h) (fun _ => ?_)
 refine zQ ?_
 refine zS [(42, .bool true), (41, .bool true)] ?_
 refine zO true (fun _ => ?_) (fun h => nomatch h)
 refine zQ ?_
 refine zS [(43, .pointer (some ⟨w.heap.size, 1, none⟩))] ?_
 refine zL (.int .i64 ((wd : Nat) : Int)) ((hB4.cell 1).trans rfl) ?_
 refine zC (mask_okN wd _ (by omega)) ?_
 rintro _ w38 ⟨rfl, hT39⟩
 have hT0 := hT0.t0 hT39
 have hL := hL.tch0 hT39
 have hP := hP.tch0 hT39
 have hM := hM.tch0 hT39
 have hB4 := hB4.tch0 hT39
 have hB10 := hB10.tch0 hT39
 have hB22 := hB22.tch0 hT39
 have hu40 := pwm_lt (x := wd) (by omega)
 refine zS [(7, .int .u64 ((pw wd - 1 : Nat) : Int))] ?_
 refine op_nil ?_
 refine zQ ?_
 refine zS [(46, .int .u64 ((pw wd - 1 : Nat) : Int)), (47, .pointer (some ⟨w16.heap.size, 1, none⟩))] ?_
 refine zL (.int .u64 (((kg l a).2 : Nat) : Int)) ((hB22.cell 1).trans rfl) ?_
 refine zS [(49, .int .u64 (IntKind.u64.wrap (((pw wd - 1 : Nat) : Int) - (((kg l a).2 : Nat) : Int))))] ?_
 rw [show IntKind.u64.wrap (((pw wd - 1 : Nat) : Int) - (((kg l a).2 : Nat) : Int)) = ((((pw wd - 1) + (18446744073709551616 - ((kg l a).2))) % 18446744073709551616 : Nat) : Int) from u64_sub (pw wd - 1) ((kg l a).2) hu40 ua2]
 have hu41 : ((pw wd - 1) + (18446744073709551616 - ((kg l a).2))) % 18446744073709551616 < 18446744073709551616 := mod_lt64 _
 refine fixR (y := ((pw wd - 1 - (kg l a).2 : Nat) : Int)) (by omega) ?_
 refine zS [(50, .int .u64 ((pw wd - 1 : Nat) : Int)), (51, .pointer (some ⟨w16.heap.size, 0, none⟩))] ?_
 refine zL (.int .u64 (((kg l a).1 : Nat) : Int)) ((hB22.cell 0).trans rfl) ?_
 refine zS [(53, .int .u64 (IntKind.u64.wrap (((pw wd - 1 : Nat) : Int) - (((kg l a).1 : Nat) : Int))))] ?_
 rw [show IntKind.u64.wrap (((pw wd - 1 : Nat) : Int) - (((kg l a).1 : Nat) : Int)) = ((((pw wd - 1) + (18446744073709551616 - ((kg l a).1))) % 18446744073709551616 : Nat) : Int) from u64_sub (pw wd - 1) ((kg l a).1) hu40 ua1]
 have hu42 : ((pw wd - 1) + (18446744073709551616 - ((kg l a).1))) % 18446744073709551616 < 18446744073709551616 := mod_lt64 _
 refine fixR (y := ((pw wd - 1 - (kg l a).1 : Nat) : Int)) (by omega) ?_
 refine zS [(54, .agg #[.int .u64 ((pw wd - 1 - (kg l a).2 : Nat) : Int), .int .u64 ((pw wd - 1 - (kg l a).1 : Nat) : Int)])] ?_
 refine st (by rfl) (S_storeA (b := w1.heap.size) (j := 0) (cs := [.int .u64 ((pw wd - 1 - (kg l a).2 : Nat) : Int), .int .u64 ((pw wd - 1 - (kg l a).1 : Nat) : Int)]) (by kernel_rfl) (by kernel_rfl) (by kernel_rfl) (by simp [oneV]) hB10 (by simp) fun w43 hT44 hs45 hB10' => ?_)
 have hT0 := (hT0).then hT44 (fun c e => by have : c = w1.heap.size := e; omega)
 have hL := hL.tchS hT44 (fun c e q => by cases e; exact nF_hB10 q)
 have hP := hP.tch hT44 (hP.ne hB10 (by decide))
 have hM := hM.tch hT44 (fun e => hM.ne hB10 e)
 have hB4 := hB4.tch hT44 (hB4.ne hB10 (by decide))
 have hB22 := hB22.tch hT44 (fun e => by have : w16.heap.size = w1.heap.size := e; omega)
 replace hB10 : Blk w43 w1.heap.size 113 [.int .u64 ((pw wd - 1 - (kg l a).2 : Nat) : Int), .int .u64 ((pw wd - 1 - (kg l a).1 : Nat) : Int)] := hB10'
 refine op_nil ?_
 refine W_ret ?_
 exact ⟨_, Res_cell (b := w1.heap.size) (cs := [.int .u64 ((pw wd - 1 - (kg l a).2 : Nat) : Int), .int .u64 ((pw wd - 1 - (kg l a).1 : Nat) : Int)]) (by rfl) (by kernel_rfl) (by kernel_rfl) hB10 (by kernel_rfl) (by kernel_rfl), ⟨by kernel_rfl, hT0⟩⟩

set_option maxRecDepth 100000 in
theorem spO_ok (F : Nat → Prop) (p : Nat) (most : Int) (N : List Nd) (W : Value → Value → Prop) (f k mb : Nat) (l : List K) (nw wd up a b : Nat) (xc xv : Int) (z : K) (lo V O : Nat) (w : World) (hL : TLow F w p most N W) (hN : N.length ≤ 65536) (hP : Blk w f 111 [.pointer (some ⟨p, 0, none⟩), .map (some mb)]) (hM : MapE Try.prog 3 w mb (spR l)) (hlk : l.length = k) (hk6 : k ≤ 65536) (ha : a < k) (hb : b < k) (hwa : widF N ((a : Nat) : Int) = ((wd : Nat) : Int)) (hxa : RI wd (kg l a)) (hxb : RI wd (kg l b)) (h1 : 1 ≤ wd) (hw : wd ≤ 64) (hO : 1 ≤ O ∧ O ≤ 14) : Ret Try.prog 54 [.pointer (some ⟨f, 0, none⟩), .agg #[.int .i64 ((O : Nat) : Int), .int .i64 ((nw : Nat) : Int), .int .i64 ((a : Nat) : Int), .int .i64 ((b : Nat) : Int), .int .i64 xc, .int .u64 xv]] w fun v w' => v = .agg #[.int .u64 (((rone O nw wd up (kg l a) (kg l b) z lo V).1 : Nat) : Int), .int .u64 (((rone O nw wd up (kg l a) (kg l b) z lo V).2 : Nat) : Int)] ∧ Tch N0 w w' := by
 have hMl := hM.lt
 have hla1 := hxa.1
 have hla2 := hxa.2
 have ua1 := hxa.u1 (show wd ≤ 64 by omega)
 have ua2 := hxa.u2 (show wd ≤ 64 by omega)
 have hlb1 := hxb.1
 have hlb2 := hxb.2
 have ub1 := hxb.u1 (show wd ≤ 64 by omega)
 have ub2 := hxb.u2 (show wd ≤ 64 by omega)
 refine enter Try.func54 rfl rfl ?_
 refine zQ ?_
 have hlt_ := hL.lt
 have lt5 := hP.lt
 have l6 := hP.lt
 refine st (by rfl) (S_new (v := .pointer (some ⟨w.heap.size, 0, none⟩)) (ob := .cells #[.int .i64 ((O : Nat) : Int), .int .i64 ((nw : Nat) : Int), .int .i64 ((a : Nat) : Int), .int .i64 ((b : Nat) : Int), .int .i64 xc, .int .u64 xv] 32) (by kernel_rfl) fun w1 hT2 hs3 hB4 => ?_)
 replace hB4 : Blk w1 (w.heap.size) 32 [.int .i64 ((O : Nat) : Int), .int .i64 ((nw : Nat) : Int), .int .i64 ((a : Nat) : Int), .int .i64 ((b : Nat) : Int), .int .i64 xc, .int .u64 xv] := hB4
 have hT0 := hT2
 have hL := hL.tch0 hT2
 have hP := hP.tch0 hT2
 have hM := hM.tch0 hT2
 have nF_hB4 : ¬ F (w.heap.size) := fun e => by have := hlt_ _ e; omega
 have hlt_ := hL.lt
 have lt11 := hP.lt
 have lt12 := hB4.lt
 have z13 := hT0.size
 have l14 := hP.lt
 have l15 := hB4.lt
 refine st (by rfl) (S_new (v := .pointer (some ⟨w1.heap.size, 0, none⟩)) (ob := .cells #[.int .u64 0, .int .u64 0] 113) (by kernel_rfl) fun w7 hT8 hs9 hB10 => ?_)
 replace hB10 : Blk w7 (w1.heap.size) 113 [.int .u64 0, .int .u64 0] := hB10
 have hT0 := hT0.t0 hT8
 have hL := hL.tch0 hT8
 have hP := hP.tch0 hT8
 have hM := hM.tch0 hT8
 have hB4 := hB4.tch0 hT8
 have nF_hB10 : ¬ F (w1.heap.size) := fun e => by have := hlt_ _ e; omega
 refine op_nil ?_
 refine W_seq ?_
 refine W_draw (fun w' => MapE Try.prog 3 w' mb (spR l) ∧ Blk w' (f) 111 [.pointer (some ⟨p, 0, none⟩), .map (some mb)] ∧ Blk w' (w.heap.size) 32 [.int .i64 ((O : Nat) : Int), .int .i64 ((nw : Nat) : Int), .int .i64 ((a : Nat) : Int), .int .i64 ((b : Nat) : Int), .int .i64 xc, .int .u64 xv]) (by kernel_rfl) (by kernel_rfl) (by kernel_rfl) fun w16 hT17 hh18 => ?_
 have hT0 := hT0.t0 hT17
 have hL := hL.tch0 hT17
 have hP := hP.tch0 hT17
 have hM := hM.tch0 hT17
 have hB4 := hB4.tch0 hT17
 have hB10 := hB10.tch0 hT17
 refine zK [0, 4, 1, 2] #[true, true, true, false, true, false, false, false, false] [(12, .pointer (some ⟨f, 0, none⟩)), (16, .pointer (some ⟨w.heap.size, 2, none⟩)), (13, .pointer (some ⟨f, 0, none⟩)), (14, .pointer (some ⟨f, 1, none⟩))] ⟨hM, hP, hB4⟩ ?_
 refine zV 3 rfl (.map (some mb)) (fun _ ⟨hM, hP, hB4⟩ => R_load (v := .map (some mb)) (by kernel_rfl) (by kernel_rfl) ((hP.cell 1).trans rfl)) ⟨hM, hP, hB4⟩ ?_
 refine zV 5 rfl (.int .i64 ((a : Nat) : Int)) (fun _ ⟨hM, hP, hB4⟩ => R_load (v := .int .i64 ((a : Nat) : Int)) (by kernel_rfl) (by kernel_rfl) ((hB4.cell 2).trans rfl)) ⟨hM, hP, hB4⟩ ?_
 refine zV 6 rfl (kV (kg l a)) (fun _ ⟨hM, hP, hB4⟩ => R_lookSp l a (by kernel_rfl) (by kernel_rfl) (by kernel_rfl) hM (by omega) (by unfold b64; omega)) ⟨hM, hP, hB4⟩ ?_
 have hlt_ := hL.lt
 have lt23 := hP.lt
 have lt24 := hB4.lt
 have lt25 := hB10.lt
 have z26 := hT0.size
 have l27 := hP.lt
 have l28 := hB4.lt
 have l29 := hB10.lt
 refine zD 7 rfl (S_new (v := .pointer (some ⟨w16.heap.size, 0, none⟩)) (ob := .cells #[.int .u64 0, .int .u64 0] 113) (by kernel_rfl) fun w19 hT20 hs21 hB22 => ?_)
 replace hB22 : Blk w19 (w16.heap.size) 113 [.int .u64 0, .int .u64 0] := hB22
 have hT0 := hT0.t0 hT20
 have hL := hL.tch0 hT20
 have hP := hP.tch0 hT20
 have hM := hM.tch0 hT20
 have hB4 := hB4.tch0 hT20
 have hB10 := hB10.tch0 hT20
 have nF_hB22 : ¬ F (w16.heap.size) := fun e => by have := hlt_ _ e; omega
 refine ⟨⟨hM, hP, hB4⟩, ?_⟩
 refine zD 8 rfl (S_storeA (b := w16.heap.size) (j := 0) (cs := [.int .u64 (((kg l a).1 : Nat) : Int), .int .u64 (((kg l a).2 : Nat) : Int)]) (by kernel_rfl) (by kernel_rfl) (by kernel_rfl) (by simp [oneV]) hB22 (by simp) fun w30 hT31 hs32 hB22' => ?_)
 have hT0 := (hT0).then hT31 (fun c e => by have : c = w16.heap.size := e; omega)
 have hL := hL.tchS hT31 (fun c e q => by cases e; exact nF_hB22 q)
 have hP := hP.tch hT31 (hP.ne hB22 (by decide))
 have hM := hM.tch hT31 (fun e => hM.ne hB22 e)
 have hB4 := hB4.tch hT31 (hB4.ne hB22 (by decide))
 have hB10 := hB10.tch hT31 (fun e => by have : w1.heap.size = w16.heap.size := e; omega)
 replace hB22 : Blk w30 w16.heap.size 113 [.int .u64 (((kg l a).1 : Nat) : Int), .int .u64 (((kg l a).2 : Nat) : Int)] := hB22'
 refine ⟨⟨hM, hP, hB4⟩, ?_⟩
 refine d_done (by kernel_rfl) ?_
 refine W_seq ?_
 refine W_draw (fun w' => MapE Try.prog 3 w' mb (spR l) ∧ Blk w' (f) 111 [.pointer (some ⟨p, 0, none⟩), .map (some mb)] ∧ Blk w' (w.heap.size) 32 [.int .i64 ((O : Nat) : Int), .int .i64 ((nw : Nat) : Int), .int .i64 ((a : Nat) : Int), .int .i64 ((b : Nat) : Int), .int .i64 xc, .int .u64 xv]) (by kernel_rfl) (by kernel_rfl) (by kernel_rfl) fun w33 hT34 hh35 => ?_
 have hT0 := hT0.t0 hT34
 have hL := hL.tch0 hT34
 have hP := hP.tch0 hT34
 have hM := hM.tch0 hT34
 have hB4 := hB4.tch0 hT34
 have hB10 := hB10.tch0 hT34
 have hB22 := hB22.tch0 hT34
 refine zK [0, 4, 1, 2] #[true, true, true, false, true, false, false, false] [(19, .pointer (some ⟨f, 0, none⟩)), (23, .pointer (some ⟨w.heap.size, 2, none⟩)), (20, .pointer (some ⟨f, 0, none⟩)), (21, .pointer (some ⟨f, 0, none⟩))] ⟨hM, hP, hB4⟩ ?_
 refine zV 3 rfl (.pointer (some ⟨p, 0, none⟩)) (fun _ ⟨hM, hP, hB4⟩ => R_load (v := .pointer (some ⟨p, 0, none⟩)) (by kernel_rfl) (by kernel_rfl) ((hP.cell 0).trans rfl)) ⟨hM, hP, hB4⟩ ?_
 refine zV 5 rfl (.int .i64 ((a : Nat) : Int)) (fun _ ⟨hM, hP, hB4⟩ => R_load (v := .int .i64 ((a : Nat) : Int)) (by kernel_rfl) (by kernel_rfl) ((hB4.cell 2).trans rfl)) ⟨hM, hP, hB4⟩ ?_
 refine zD 6 rfl (S_call (args := [.pointer (some ⟨p, 0, none⟩), .int .i64 ((a : Nat) : Int)]) (by kernel_rfl) ((by have q := width_ok F p most N W ((a : Nat) : Int) _ hL hN; rw [hwa] at q; exact q)) ?_)
 rintro _ w36 ⟨rfl, hT37⟩
 have hT0 := hT0.t0 hT37
 have hL := hL.tch0 hT37
 have hP := hP.tch0 hT37
 have hM := hM.tch0 hT37
 have hB4 := hB4.tch0 hT37
 have hB10 := hB10.tch0 hT37
 have hB22 := hB22.tch0 hT37
 refine ⟨⟨hM, hP, hB4⟩, ?_⟩
 refine zK [7] #[true, true, true, true, true, true, true, true] [(6, .int .i64 ((wd : Nat) : Int))] ⟨hM, hP, hB4⟩ ?_
 refine d_done (by kernel_rfl) ?_
 refine W_seq ?_
 refine zQ ?_
 refine zS [(26, .pointer (some ⟨w.heap.size, 0, none⟩))] ?_
 refine zL (.int .i64 ((O : Nat) : Int)) ((hB4.cell 0).trans rfl) ?_
 refine op_nil ?_
 refine W_block ?_
 refine zQ ?_
 refine zS [(29, .bool (((O : Nat) : Int) == 20)), (28, .bool (((O : Nat) : Int) == 20))] ?_
 refine zO (((O : Nat) : Int) == 20) (fun hc38 => ?_) (fun hc38 => ?_)
 ·
  replace hc38 : ((O : Nat) : Int) = 20 := (eq_of_beq hc38)
  exfalso; omega
 ·
  replace hc38 : ((O : Nat) : Int) ≠ 20 := (ne_of_beq_false hc38)
  refine W_seq ?_
  refine zQ ?_
  refine zS [(36, .bool (((O : Nat) : Int) == 21)), (35, .bool (((O : Nat) : Int) == 21))] ?_
  refine zO (((O : Nat) : Int) == 21) (fun hc39 => ?_) (fun hc39 => ?_)
  ·
   replace hc39 : ((O : Nat) : Int) = 21 := (eq_of_beq hc39)
   exfalso; omega
  ·
   replace hc39 : ((O : Nat) : Int) ≠ 21 := (ne_of_beq_false hc39)
   refine zR ?_
   refine zS [(37, .bool (((O : Nat) : Int) == 16)), (35, .bool (((O : Nat) : Int) == 16))] ?_
   refine zO (((O : Nat) : Int) == 16) (fun hc40 => ?_) (fun hc40 => ?_)
   ·
    replace hc40 : ((O : Nat) : Int) = 16 := (eq_of_beq hc40)
    exfalso; omega
   ·
    replace hc40 : ((O : Nat) : Int) ≠ 16 := (ne_of_beq_false hc40)
    refine zQ ?_
    refine zS [(42, .bool (((O : Nat) : Int) == 15)), (41, .bool (((O : Nat) : Int) == 15))] ?_
    refine zO (((O : Nat) : Int) == 15) (fun hc41 => ?_) (fun hc41 => ?_)
    ·
     replace hc41 : ((O : Nat) : Int) = 15 := (eq_of_beq hc41)
     exfalso; omega
    ·
     replace hc41 : ((O : Nat) : Int) ≠ 15 := (ne_of_beq_false hc41)
     refine zQ ?_
     refine zS [(56, .bool (((O : Nat) : Int) == 22)), (55, .bool (((O : Nat) : Int) == 22))] ?_
     refine zO (((O : Nat) : Int) == 22) (fun hc42 => ?_) (fun hc42 => ?_)
     ·
      replace hc42 : ((O : Nat) : Int) = 22 := (eq_of_beq hc42)
      exfalso; omega
     ·
      replace hc42 : ((O : Nat) : Int) ≠ 22 := (ne_of_beq_false hc42)
      refine zQ ?_
      refine zS [(93, .bool (((O : Nat) : Int) == 23)), (92, .bool (((O : Nat) : Int) == 23))] ?_
      refine zO (((O : Nat) : Int) == 23) (fun hc43 => ?_) (fun hc43 => ?_)
      ·
       replace hc43 : ((O : Nat) : Int) = 23 := (eq_of_beq hc43)
       exfalso; omega
      ·
       replace hc43 : ((O : Nat) : Int) ≠ 23 := (ne_of_beq_false hc43)
       refine zQ ?_
       refine zS [(110, .bool (((O : Nat) : Int) == 24)), (109, .bool (((O : Nat) : Int) == 24))] ?_
       refine zO (((O : Nat) : Int) == 24) (fun hc44 => ?_) (fun hc44 => ?_)
       ·
        replace hc44 : ((O : Nat) : Int) = 24 := (eq_of_beq hc44)
        exfalso; omega
       ·
        replace hc44 : ((O : Nat) : Int) ≠ 24 := (ne_of_beq_false hc44)
        refine zQ ?_
        refine zS [(141, .bool (((O : Nat) : Int) == 26)), (140, .bool (((O : Nat) : Int) == 26))] ?_
        refine zO (((O : Nat) : Int) == 26) (fun hc45 => ?_) (fun hc45 => ?_)
        ·
         replace hc45 : ((O : Nat) : Int) = 26 := (eq_of_beq hc45)
         exfalso; omega
        ·
         replace hc45 : ((O : Nat) : Int) ≠ 26 := (ne_of_beq_false hc45)
         refine zQ ?_
         refine zS [(154, .bool (((O : Nat) : Int) == 25)), (153, .bool (((O : Nat) : Int) == 25))] ?_
         refine zO (((O : Nat) : Int) == 25) (fun hc46 => ?_) (fun hc46 => ?_)
         ·
          replace hc46 : ((O : Nat) : Int) = 25 := (eq_of_beq hc46)
          exfalso; omega
         ·
          replace hc46 : ((O : Nat) : Int) ≠ 25 := (ne_of_beq_false hc46)
          refine W_skip ?_
          refine W_seq ?_
          refine W_draw (fun w' => MapE Try.prog 3 w' mb (spR l) ∧ Blk w' (f) 111 [.pointer (some ⟨p, 0, none⟩), .map (some mb)] ∧ Blk w' (w.heap.size) 32 [.int .i64 ((O : Nat) : Int), .int .i64 ((nw : Nat) : Int), .int .i64 ((a : Nat) : Int), .int .i64 ((b : Nat) : Int), .int .i64 xc, .int .u64 xv] ∧ Blk w' (w16.heap.size) 113 [.int .u64 (((kg l a).1 : Nat) : Int), .int .u64 (((kg l a).2 : Nat) : Int)]) (by kernel_rfl) (by kernel_rfl) (by kernel_rfl) fun w47 hT48 hh49 => ?_
          have hT0 := hT0.t0 hT48
          have hL := hL.tch0 hT48
          have hP := hP.tch0 hT48
          have hM := hM.tch0 hT48
          have hB4 := hB4.tch0 hT48
          have hB10 := hB10.tch0 hT48
          have hB22 := hB22.tch0 hT48
          refine zK [0, 2, 4, 8, 5, 6] #[true, false, true, false, true, true, true, false, true, false, false, false, false] [(156, .pointer (some ⟨w.heap.size, 0, none⟩)), (158, .int .i64 ((wd : Nat) : Int)), (160, .pointer (some ⟨f, 0, none⟩)), (164, .pointer (some ⟨w.heap.size, 3, none⟩)), (161, .pointer (some ⟨f, 0, none⟩)), (162, .pointer (some ⟨f, 1, none⟩))] ⟨hM, hP, hB4, hB22⟩ ?_
          refine zV 1 rfl (.int .i64 ((O : Nat) : Int)) (fun _ ⟨hM, hP, hB4, hB22⟩ => R_load (v := .int .i64 ((O : Nat) : Int)) (by kernel_rfl) (by kernel_rfl) ((hB4.cell 0).trans rfl)) ⟨hM, hP, hB4, hB22⟩ ?_
          refine zV 3 rfl (.agg #[.int .u64 (((kg l a).1 : Nat) : Int), .int .u64 (((kg l a).2 : Nat) : Int)]) (fun _ ⟨hM, hP, hB4, hB22⟩ => R_loadA [.int .u64 (((kg l a).1 : Nat) : Int), .int .u64 (((kg l a).2 : Nat) : Int)] (by kernel_rfl) (by kernel_rfl) (by kernel_rfl) (fun k u hk => by rw [hB22.cell]; exact get_part _ 0 _ k u rfl hk)) ⟨hM, hP, hB4, hB22⟩ ?_
          refine zV 7 rfl (.map (some mb)) (fun _ ⟨hM, hP, hB4, hB22⟩ => R_load (v := .map (some mb)) (by kernel_rfl) (by kernel_rfl) ((hP.cell 1).trans rfl)) ⟨hM, hP, hB4, hB22⟩ ?_
          refine zV 9 rfl (.int .i64 ((b : Nat) : Int)) (fun _ ⟨hM, hP, hB4, hB22⟩ => R_load (v := .int .i64 ((b : Nat) : Int)) (by kernel_rfl) (by kernel_rfl) ((hB4.cell 3).trans rfl)) ⟨hM, hP, hB4, hB22⟩ ?_
          refine zV 10 rfl (kV (kg l b)) (fun _ ⟨hM, hP, hB4, hB22⟩ => R_lookSp l b (by kernel_rfl) (by kernel_rfl) (by kernel_rfl) hM (by omega) (by unfold b64; omega)) ⟨hM, hP, hB4, hB22⟩ ?_
          refine zD 11 rfl (S_call (args := [.int .i64 ((O : Nat) : Int), .int .i64 ((wd : Nat) : Int), .agg #[.int .u64 (((kg l a).1 : Nat) : Int), .int .u64 (((kg l a).2 : Nat) : Int)], .agg #[.int .u64 (((kg l b).1 : Nat) : Int), .int .u64 (((kg l b).2 : Nat) : Int)]]) (by kernel_rfl) (rbin_ok_ O wd (kg l a) (kg l b) _ hxa hxb h1 hw hO) ?_)
          rintro _ w50 ⟨rfl, hT51⟩
          have hT0 := hT0.t0 hT51
          have hL := hL.tch0 hT51
          have hP := hP.tch0 hT51
          have hM := hM.tch0 hT51
          have hB4 := hB4.tch0 hT51
          have hB10 := hB10.tch0 hT51
          have hB22 := hB22.tch0 hT51
          refine ⟨⟨hM, hP, hB4, hB22⟩, ?_⟩
          refine zD 12 rfl (S_storeA (b := w1.heap.size) (j := 0) (cs := [.int .u64 (((rbin O wd (kg l a) (kg l b)).1 : Nat) : Int), .int .u64 (((rbin O wd (kg l a) (kg l b)).2 : Nat) : Int)]) (by kernel_rfl) (by kernel_rfl) (by kernel_rfl) (by simp [oneV]) hB10 (by simp) fun w52 hT53 hs54 hB10' => ?_)
          have hT0 := (hT0).then hT53 (fun c e => by have : c = w1.heap.size := e; omega)
          have hL := hL.tchS hT53 (fun c e q => by cases e; exact nF_hB10 q)
          have hP := hP.tch hT53 (hP.ne hB10 (by decide))
          have hM := hM.tch hT53 (fun e => hM.ne hB10 e)
          have hB4 := hB4.tch hT53 (hB4.ne hB10 (by decide))
          have hB22 := hB22.tch hT53 (fun e => by have : w16.heap.size = w1.heap.size := e; omega)
          replace hB10 : Blk w52 w1.heap.size 113 [.int .u64 (((rbin O wd (kg l a) (kg l b)).1 : Nat) : Int), .int .u64 (((rbin O wd (kg l a) (kg l b)).2 : Nat) : Int)] := hB10'
          refine ⟨⟨hM, hP, hB4, hB22⟩, ?_⟩
          refine d_done (by kernel_rfl) ?_
          refine W_ret ?_
          refine ⟨_, Res_cell (b := w1.heap.size) (cs := [.int .u64 (((rbin O wd (kg l a) (kg l b)).1 : Nat) : Int), .int .u64 (((rbin O wd (kg l a) (kg l b)).2 : Nat) : Int)]) (by rfl) (by kernel_rfl) (by kernel_rfl) hB10 (by kernel_rfl) (by kernel_rfl), ?_⟩
          have e : rone O nw wd up (kg l a) (kg l b) z lo V = rbin O wd (kg l a) (kg l b) := by unfold rone; (repeat (first | rw [if_pos (by omega)] | rw [if_neg (by omega)]))
          rw [e]
          exact ⟨rfl, hT0⟩

set_option maxRecDepth 100000 in
theorem sp22_ok (F : Nat → Prop) (p : Nat) (most : Int) (N : List Nd) (W : Value → Value → Prop) (f k mb : Nat) (l : List K) (nw wd up a b c : Nat) (xv : Int) (lo V : Nat) (w : World) (hL : TLow F w p most N W) (hN : N.length ≤ 65536) (hP : Blk w f 111 [.pointer (some ⟨p, 0, none⟩), .map (some mb)]) (hM : MapE Try.prog 3 w mb (spR l)) (hlk : l.length = k) (hk6 : k ≤ 65536) (ha : a < k) (hb : b < k) (hc : c < k) (hwa : widF N ((a : Nat) : Int) = ((wd : Nat) : Int)) (hxa : RI 1 (kg l a)) (hxb : RI nw (kg l b)) (hxc : RI nw (kg l c)) (hw : nw ≤ 64) : Ret Try.prog 54 [.pointer (some ⟨f, 0, none⟩), .agg #[.int .i64 22, .int .i64 ((nw : Nat) : Int), .int .i64 ((a : Nat) : Int), .int .i64 ((b : Nat) : Int), .int .i64 ((c : Nat) : Int), .int .u64 xv]] w fun v w' => v = .agg #[.int .u64 (((rone 22 nw wd up (kg l a) (kg l b) (kg l c) lo V).1 : Nat) : Int), .int .u64 (((rone 22 nw wd up (kg l a) (kg l b) (kg l c) lo V).2 : Nat) : Int)] ∧ Tch N0 w w' := by
 have hMl := hM.lt
 have hla1 := hxa.1
 have hla2 := hxa.2
 have ua1 := hxa.u1 (show 1 ≤ 64 by omega)
 have ua2 := hxa.u2 (show 1 ≤ 64 by omega)
 have hlb1 := hxb.1
 have hlb2 := hxb.2
 have ub1 := hxb.u1 (show nw ≤ 64 by omega)
 have ub2 := hxb.u2 (show nw ≤ 64 by omega)
 have hlc1 := hxc.1
 have hlc2 := hxc.2
 have uc1 := hxc.u1 (show nw ≤ 64 by omega)
 have uc2 := hxc.u2 (show nw ≤ 64 by omega)
 refine enter Try.func54 rfl rfl ?_
 refine zQ ?_
 have hlt_ := hL.lt
 have lt5 := hP.lt
 have l6 := hP.lt
 refine st (by rfl) (S_new (v := .pointer (some ⟨w.heap.size, 0, none⟩)) (ob := .cells #[.int .i64 22, .int .i64 ((nw : Nat) : Int), .int .i64 ((a : Nat) : Int), .int .i64 ((b : Nat) : Int), .int .i64 ((c : Nat) : Int), .int .u64 xv] 32) (by kernel_rfl) fun w1 hT2 hs3 hB4 => ?_)
 replace hB4 : Blk w1 (w.heap.size) 32 [.int .i64 22, .int .i64 ((nw : Nat) : Int), .int .i64 ((a : Nat) : Int), .int .i64 ((b : Nat) : Int), .int .i64 ((c : Nat) : Int), .int .u64 xv] := hB4
 have hT0 := hT2
 have hL := hL.tch0 hT2
 have hP := hP.tch0 hT2
 have hM := hM.tch0 hT2
 have nF_hB4 : ¬ F (w.heap.size) := fun e => by have := hlt_ _ e; omega
 have hlt_ := hL.lt
 have lt11 := hP.lt
 have lt12 := hB4.lt
 have z13 := hT0.size
 have l14 := hP.lt
 have l15 := hB4.lt
 refine st (by rfl) (S_new (v := .pointer (some ⟨w1.heap.size, 0, none⟩)) (ob := .cells #[.int .u64 0, .int .u64 0] 113) (by kernel_rfl) fun w7 hT8 hs9 hB10 => ?_)
 replace hB10 : Blk w7 (w1.heap.size) 113 [.int .u64 0, .int .u64 0] := hB10
 have hT0 := hT0.t0 hT8
 have hL := hL.tch0 hT8
 have hP := hP.tch0 hT8
 have hM := hM.tch0 hT8
 have hB4 := hB4.tch0 hT8
 have nF_hB10 : ¬ F (w1.heap.size) := fun e => by have := hlt_ _ e; omega
 refine op_nil ?_
 refine W_seq ?_
 refine W_draw (fun w' => MapE Try.prog 3 w' mb (spR l) ∧ Blk w' (f) 111 [.pointer (some ⟨p, 0, none⟩), .map (some mb)] ∧ Blk w' (w.heap.size) 32 [.int .i64 22, .int .i64 ((nw : Nat) : Int), .int .i64 ((a : Nat) : Int), .int .i64 ((b : Nat) : Int), .int .i64 ((c : Nat) : Int), .int .u64 xv]) (by kernel_rfl) (by kernel_rfl) (by kernel_rfl) fun w16 hT17 hh18 => ?_
 have hT0 := hT0.t0 hT17
 have hL := hL.tch0 hT17
 have hP := hP.tch0 hT17
 have hM := hM.tch0 hT17
 have hB4 := hB4.tch0 hT17
 have hB10 := hB10.tch0 hT17
 refine zK [0, 4, 1, 2] #[true, true, true, false, true, false, false, false, false] [(12, .pointer (some ⟨f, 0, none⟩)), (16, .pointer (some ⟨w.heap.size, 2, none⟩)), (13, .pointer (some ⟨f, 0, none⟩)), (14, .pointer (some ⟨f, 1, none⟩))] ⟨hM, hP, hB4⟩ ?_
 refine zV 3 rfl (.map (some mb)) (fun _ ⟨hM, hP, hB4⟩ => R_load (v := .map (some mb)) (by kernel_rfl) (by kernel_rfl) ((hP.cell 1).trans rfl)) ⟨hM, hP, hB4⟩ ?_
 refine zV 5 rfl (.int .i64 ((a : Nat) : Int)) (fun _ ⟨hM, hP, hB4⟩ => R_load (v := .int .i64 ((a : Nat) : Int)) (by kernel_rfl) (by kernel_rfl) ((hB4.cell 2).trans rfl)) ⟨hM, hP, hB4⟩ ?_
 refine zV 6 rfl (kV (kg l a)) (fun _ ⟨hM, hP, hB4⟩ => R_lookSp l a (by kernel_rfl) (by kernel_rfl) (by kernel_rfl) hM (by omega) (by unfold b64; omega)) ⟨hM, hP, hB4⟩ ?_
 have hlt_ := hL.lt
 have lt23 := hP.lt
 have lt24 := hB4.lt
 have lt25 := hB10.lt
 have z26 := hT0.size
 have l27 := hP.lt
 have l28 := hB4.lt
 have l29 := hB10.lt
 refine zD 7 rfl (S_new (v := .pointer (some ⟨w16.heap.size, 0, none⟩)) (ob := .cells #[.int .u64 0, .int .u64 0] 113) (by kernel_rfl) fun w19 hT20 hs21 hB22 => ?_)
 replace hB22 : Blk w19 (w16.heap.size) 113 [.int .u64 0, .int .u64 0] := hB22
 have hT0 := hT0.t0 hT20
 have hL := hL.tch0 hT20
 have hP := hP.tch0 hT20
 have hM := hM.tch0 hT20
 have hB4 := hB4.tch0 hT20
 have hB10 := hB10.tch0 hT20
 have nF_hB22 : ¬ F (w16.heap.size) := fun e => by have := hlt_ _ e; omega
 refine ⟨⟨hM, hP, hB4⟩, ?_⟩
 refine zD 8 rfl (S_storeA (b := w16.heap.size) (j := 0) (cs := [.int .u64 (((kg l a).1 : Nat) : Int), .int .u64 (((kg l a).2 : Nat) : Int)]) (by kernel_rfl) (by kernel_rfl) (by kernel_rfl) (by simp [oneV]) hB22 (by simp) fun w30 hT31 hs32 hB22' => ?_)
 have hT0 := (hT0).then hT31 (fun c e => by have : c = w16.heap.size := e; omega)
 have hL := hL.tchS hT31 (fun c e q => by cases e; exact nF_hB22 q)
 have hP := hP.tch hT31 (hP.ne hB22 (by decide))
 have hM := hM.tch hT31 (fun e => hM.ne hB22 e)
 have hB4 := hB4.tch hT31 (hB4.ne hB22 (by decide))
 have hB10 := hB10.tch hT31 (fun e => by have : w1.heap.size = w16.heap.size := e; omega)
 replace hB22 : Blk w30 w16.heap.size 113 [.int .u64 (((kg l a).1 : Nat) : Int), .int .u64 (((kg l a).2 : Nat) : Int)] := hB22'
 refine ⟨⟨hM, hP, hB4⟩, ?_⟩
 refine d_done (by kernel_rfl) ?_
 refine W_seq ?_
 refine W_draw (fun w' => MapE Try.prog 3 w' mb (spR l) ∧ Blk w' (f) 111 [.pointer (some ⟨p, 0, none⟩), .map (some mb)] ∧ Blk w' (w.heap.size) 32 [.int .i64 22, .int .i64 ((nw : Nat) : Int), .int .i64 ((a : Nat) : Int), .int .i64 ((b : Nat) : Int), .int .i64 ((c : Nat) : Int), .int .u64 xv]) (by kernel_rfl) (by kernel_rfl) (by kernel_rfl) fun w33 hT34 hh35 => ?_
 have hT0 := hT0.t0 hT34
 have hL := hL.tch0 hT34
 have hP := hP.tch0 hT34
 have hM := hM.tch0 hT34
 have hB4 := hB4.tch0 hT34
 have hB10 := hB10.tch0 hT34
 have hB22 := hB22.tch0 hT34
 refine zK [0, 4, 1, 2] #[true, true, true, false, true, false, false, false] [(19, .pointer (some ⟨f, 0, none⟩)), (23, .pointer (some ⟨w.heap.size, 2, none⟩)), (20, .pointer (some ⟨f, 0, none⟩)), (21, .pointer (some ⟨f, 0, none⟩))] ⟨hM, hP, hB4⟩ ?_
 refine zV 3 rfl (.pointer (some ⟨p, 0, none⟩)) (fun _ ⟨hM, hP, hB4⟩ => R_load (v := .pointer (some ⟨p, 0, none⟩)) (by kernel_rfl) (by kernel_rfl) ((hP.cell 0).trans rfl)) ⟨hM, hP, hB4⟩ ?_
 refine zV 5 rfl (.int .i64 ((a : Nat) : Int)) (fun _ ⟨hM, hP, hB4⟩ => R_load (v := .int .i64 ((a : Nat) : Int)) (by kernel_rfl) (by kernel_rfl) ((hB4.cell 2).trans rfl)) ⟨hM, hP, hB4⟩ ?_
 refine zD 6 rfl (S_call (args := [.pointer (some ⟨p, 0, none⟩), .int .i64 ((a : Nat) : Int)]) (by kernel_rfl) ((by have q := width_ok F p most N W ((a : Nat) : Int) _ hL hN; rw [hwa] at q; exact q)) ?_)
 rintro _ w36 ⟨rfl, hT37⟩
 have hT0 := hT0.t0 hT37
 have hL := hL.tch0 hT37
 have hP := hP.tch0 hT37
 have hM := hM.tch0 hT37
 have hB4 := hB4.tch0 hT37
 have hB10 := hB10.tch0 hT37
 have hB22 := hB22.tch0 hT37
 refine ⟨⟨hM, hP, hB4⟩, ?_⟩
 refine zK [7] #[true, true, true, true, true, true, true, true] [(6, .int .i64 ((wd : Nat) : Int))] ⟨hM, hP, hB4⟩ ?_
 refine d_done (by kernel_rfl) ?_
 refine W_seq ?_
 refine zQ ?_
 refine zS [(26, .pointer (some ⟨w.heap.size, 0, none⟩))] ?_
 refine zL (.int .i64 22) ((hB4.cell 0).trans rfl) ?_
 refine op_nil ?_
 refine W_block ?_
 refine zQ ?_
 refine zS [(29, .bool false), (28, .bool false)] ?_
 refine zO false (fun h => nomatch h) (fun _ => ?_)
 refine W_seq ?_
 refine zQ ?_
 refine zS [(36, .bool false), (35, .bool false)] ?_
 refine zO false (fun h => nomatch h) (fun _ => ?_)
 refine zR ?_
 refine zS [(37, .bool false), (35, .bool false)] ?_
 refine zO false (fun h => nomatch h) (fun _ => ?_)
 refine zQ ?_
 refine zS [(42, .bool false), (41, .bool false)] ?_
 refine zO false (fun h => nomatch h) (fun _ => ?_)
 refine zQ ?_
 refine zS [(56, .bool true), (55, .bool true)] ?_
 refine zO true (fun _ => ?_) (fun h => nomatch h)
 refine W_seq ?_
 refine W_draw (fun w' => MapE Try.prog 3 w' mb (spR l) ∧ Blk w' (f) 111 [.pointer (some ⟨p, 0, none⟩), .map (some mb)] ∧ Blk w' (w.heap.size) 32 [.int .i64 22, .int .i64 ((nw : Nat) : Int), .int .i64 ((a : Nat) : Int), .int .i64 ((b : Nat) : Int), .int .i64 ((c : Nat) : Int), .int .u64 xv]) (by kernel_rfl) (by kernel_rfl) (by kernel_rfl) fun w38 hT39 hh40 => ?_
 have hT0 := hT0.t0 hT39
 have hL := hL.tch0 hT39
 have hP := hP.tch0 hT39
 have hM := hM.tch0 hT39
 have hB4 := hB4.tch0 hT39
 have hB10 := hB10.tch0 hT39
 have hB22 := hB22.tch0 hT39
 refine zK [0, 4, 7, 11, 1, 8, 2, 9] #[true, true, true, false, true, false, false, true, true, true, false, true, false, false, false, false, false, false] [(57, .pointer (some ⟨f, 0, none⟩)), (61, .pointer (some ⟨w.heap.size, 3, none⟩)), (64, .pointer (some ⟨f, 0, none⟩)), (68, .pointer (some ⟨w.heap.size, 4, none⟩)), (58, .pointer (some ⟨f, 0, none⟩)), (65, .pointer (some ⟨f, 0, none⟩)), (59, .pointer (some ⟨f, 1, none⟩)), (66, .pointer (some ⟨f, 1, none⟩))] ⟨hM, hP, hB4⟩ ?_
 refine zV 3 rfl (.map (some mb)) (fun _ ⟨hM, hP, hB4⟩ => R_load (v := .map (some mb)) (by kernel_rfl) (by kernel_rfl) ((hP.cell 1).trans rfl)) ⟨hM, hP, hB4⟩ ?_
 refine zV 5 rfl (.int .i64 ((b : Nat) : Int)) (fun _ ⟨hM, hP, hB4⟩ => R_load (v := .int .i64 ((b : Nat) : Int)) (by kernel_rfl) (by kernel_rfl) ((hB4.cell 3).trans rfl)) ⟨hM, hP, hB4⟩ ?_
 refine zV 6 rfl (kV (kg l b)) (fun _ ⟨hM, hP, hB4⟩ => R_lookSp l b (by kernel_rfl) (by kernel_rfl) (by kernel_rfl) hM (by omega) (by unfold b64; omega)) ⟨hM, hP, hB4⟩ ?_
 refine zV 10 rfl (.map (some mb)) (fun _ ⟨hM, hP, hB4⟩ => R_load (v := .map (some mb)) (by kernel_rfl) (by kernel_rfl) ((hP.cell 1).trans rfl)) ⟨hM, hP, hB4⟩ ?_
 refine zV 12 rfl (.int .i64 ((c : Nat) : Int)) (fun _ ⟨hM, hP, hB4⟩ => R_load (v := .int .i64 ((c : Nat) : Int)) (by kernel_rfl) (by kernel_rfl) ((hB4.cell 4).trans rfl)) ⟨hM, hP, hB4⟩ ?_
 refine zV 13 rfl (kV (kg l c)) (fun _ ⟨hM, hP, hB4⟩ => R_lookSp l c (by kernel_rfl) (by kernel_rfl) (by kernel_rfl) hM (by omega) (by unfold b64; omega)) ⟨hM, hP, hB4⟩ ?_
 refine d_two 14 15 (by kernel_rfl) (by rfl) (by rfl) (by kernel_rfl) (by kernel_rfl) ?_ ?_
 ·
  have hlt_ := hL.lt
  have lt45 := hP.lt
  have lt46 := hB4.lt
  have lt47 := hB10.lt
  have lt48 := hB22.lt
  have z49 := hT0.size
  have l50 := hP.lt
  have l51 := hB4.lt
  have l52 := hB10.lt
  have l53 := hB22.lt
  refine (S_new (v := .pointer (some ⟨w38.heap.size, 0, none⟩)) (ob := .cells #[.int .u64 0, .int .u64 0] 113) (by kernel_rfl) fun w41 hT42 hs43 hB44 => ?_)
  replace hB44 : Blk w41 (w38.heap.size) 113 [.int .u64 0, .int .u64 0] := hB44
  have hT0 := hT0.t0 hT42
  have hL := hL.tch0 hT42
  have hP := hP.tch0 hT42
  have hM := hM.tch0 hT42
  have hB4 := hB4.tch0 hT42
  have hB10 := hB10.tch0 hT42
  have hB22 := hB22.tch0 hT42
  have nF_hB44 : ¬ F (w38.heap.size) := fun e => by have := hlt_ _ e; omega
  refine ⟨⟨hM, hP, hB4⟩, ?_⟩
  have hlt_ := hL.lt
  have lt58 := hP.lt
  have lt59 := hB4.lt
  have lt60 := hB10.lt
  have lt61 := hB22.lt
  have lt62 := hB44.lt
  have z63 := hT0.size
  have l64 := hP.lt
  have l65 := hB4.lt
  have l66 := hB10.lt
  have l67 := hB22.lt
  have l68 := hB44.lt
  refine zD 15 rfl (S_new (v := .pointer (some ⟨w41.heap.size, 0, none⟩)) (ob := .cells #[.int .u64 0, .int .u64 0] 113) (by kernel_rfl) fun w54 hT55 hs56 hB57 => ?_)
  replace hB57 : Blk w54 (w41.heap.size) 113 [.int .u64 0, .int .u64 0] := hB57
  have hT0 := hT0.t0 hT55
  have hL := hL.tch0 hT55
  have hP := hP.tch0 hT55
  have hM := hM.tch0 hT55
  have hB4 := hB4.tch0 hT55
  have hB10 := hB10.tch0 hT55
  have hB22 := hB22.tch0 hT55
  have hB44 := hB44.tch0 hT55
  have nF_hB57 : ¬ F (w41.heap.size) := fun e => by have := hlt_ _ e; omega
  refine ⟨⟨hM, hP, hB4⟩, ?_⟩
  refine zD 16 rfl (S_storeA (b := w38.heap.size) (j := 0) (cs := [.int .u64 (((kg l b).1 : Nat) : Int), .int .u64 (((kg l b).2 : Nat) : Int)]) (by kernel_rfl) (by kernel_rfl) (by kernel_rfl) (by simp [oneV]) hB44 (by simp) fun w69 hT70 hs71 hB44' => ?_)
  have hT0 := (hT0).then hT70 (fun c e => by have : c = w38.heap.size := e; omega)
  have hL := hL.tchS hT70 (fun c e q => by cases e; exact nF_hB44 q)
  have hP := hP.tch hT70 (hP.ne hB44 (by decide))
  have hM := hM.tch hT70 (fun e => hM.ne hB44 e)
  have hB4 := hB4.tch hT70 (hB4.ne hB44 (by decide))
  have hB10 := hB10.tch hT70 (fun e => by have : w1.heap.size = w38.heap.size := e; omega)
  have hB22 := hB22.tch hT70 (fun e => by have : w16.heap.size = w38.heap.size := e; omega)
  have hB57 := hB57.tch hT70 (fun e => by have : w41.heap.size = w38.heap.size := e; omega)
  replace hB44 : Blk w69 w38.heap.size 113 [.int .u64 (((kg l b).1 : Nat) : Int), .int .u64 (((kg l b).2 : Nat) : Int)] := hB44'
  refine ⟨⟨hM, hP, hB4⟩, ?_⟩
  refine zD 17 rfl (S_storeA (b := w41.heap.size) (j := 0) (cs := [.int .u64 (((kg l c).1 : Nat) : Int), .int .u64 (((kg l c).2 : Nat) : Int)]) (by kernel_rfl) (by kernel_rfl) (by kernel_rfl) (by simp [oneV]) hB57 (by simp) fun w72 hT73 hs74 hB57' => ?_)
  have hT0 := (hT0).then hT73 (fun c e => by have : c = w41.heap.size := e; omega)
  have hL := hL.tchS hT73 (fun c e q => by cases e; exact nF_hB57 q)
  have hP := hP.tch hT73 (hP.ne hB57 (by decide))
  have hM := hM.tch hT73 (fun e => hM.ne hB57 e)
  have hB4 := hB4.tch hT73 (hB4.ne hB57 (by decide))
  have hB10 := hB10.tch hT73 (fun e => by have : w1.heap.size = w41.heap.size := e; omega)
  have hB22 := hB22.tch hT73 (fun e => by have : w16.heap.size = w41.heap.size := e; omega)
  have hB44 := hB44.tch hT73 (fun e => by have : w38.heap.size = w41.heap.size := e; omega)
  replace hB57 : Blk w72 w41.heap.size 113 [.int .u64 (((kg l c).1 : Nat) : Int), .int .u64 (((kg l c).2 : Nat) : Int)] := hB57'
  refine ⟨⟨hM, hP, hB4⟩, ?_⟩
  refine d_done (by kernel_rfl) ?_
  refine W_seq ?_
  refine W_block ?_
  refine zQ ?_
  refine zS [(72, .pointer (some ⟨w16.heap.size, 0, none⟩))] ?_
  refine zL (.int .u64 (((kg l a).1 : Nat) : Int)) ((hB22.cell 0).trans rfl) ?_
  refine zS [(74, .bool ((((kg l a).1 : Nat) : Int) == 1)), (71, .bool ((((kg l a).1 : Nat) : Int) == 1))] ?_
  refine zO ((((kg l a).1 : Nat) : Int) == 1) (fun hc75 => ?_) (fun hc75 => ?_)
  ·
   replace hc75 : (((kg l a).1 : Nat) : Int) = 1 := (eq_of_beq hc75)
   refine zQ ?_
   refine st (by rfl) (S_val (v := .agg #[.int .u64 (((kg l b).1 : Nat) : Int), .int .u64 (((kg l b).2 : Nat) : Int)]) (R_loadA [.int .u64 (((kg l b).1 : Nat) : Int), .int .u64 (((kg l b).2 : Nat) : Int)] (by kernel_rfl) (by kernel_rfl) (by kernel_rfl) (fun k u hk => by rw [hB44.cell]; exact get_part _ 0 _ k u rfl hk)) ?_)
   refine st (by rfl) (S_storeA (b := w1.heap.size) (j := 0) (cs := [.int .u64 (((kg l b).1 : Nat) : Int), .int .u64 (((kg l b).2 : Nat) : Int)]) (by kernel_rfl) (by kernel_rfl) (by kernel_rfl) (by simp [oneV]) hB10 (by simp) fun w76 hT77 hs78 hB10' => ?_)
   have hT0 := (hT0).then hT77 (fun c e => by have : c = w1.heap.size := e; omega)
   have hL := hL.tchS hT77 (fun c e q => by cases e; exact nF_hB10 q)
   have hP := hP.tch hT77 (hP.ne hB10 (by decide))
   have hM := hM.tch hT77 (fun e => hM.ne hB10 e)
   have hB4 := hB4.tch hT77 (hB4.ne hB10 (by decide))
   have hB22 := hB22.tch hT77 (fun e => by have : w16.heap.size = w1.heap.size := e; omega)
   have hB44 := hB44.tch hT77 (fun e => by have : w38.heap.size = w1.heap.size := e; omega)
   have hB57 := hB57.tch hT77 (fun e => by have : w41.heap.size = w1.heap.size := e; omega)
   replace hB10 : Blk w76 w1.heap.size 113 [.int .u64 (((kg l b).1 : Nat) : Int), .int .u64 (((kg l b).2 : Nat) : Int)] := hB10'
   refine op_nil ?_
   refine W_ret ?_
   refine ⟨_, Res_cell (b := w1.heap.size) (cs := [.int .u64 (((kg l b).1 : Nat) : Int), .int .u64 (((kg l b).2 : Nat) : Int)]) (by rfl) (by kernel_rfl) (by kernel_rfl) hB10 (by kernel_rfl) (by kernel_rfl), ?_⟩
   have e : rone 22 nw wd up (kg l a) (kg l b) (kg l c) lo V = kg l b := by show (if (kg l a).1 = 1 then _ else if (kg l a).2 = 0 then _ else _) = _; (repeat (first | rw [if_pos (by omega)] | rw [if_neg (by omega)]))
   rw [e]
   exact ⟨rfl, hT0⟩
  ·
   replace hc75 : (((kg l a).1 : Nat) : Int) ≠ 1 := (ne_of_beq_false hc75)
   refine zQ ?_
   refine zS [(77, .pointer (some ⟨w16.heap.size, 1, none⟩))] ?_
   refine zL (.int .u64 (((kg l a).2 : Nat) : Int)) ((hB22.cell 1).trans rfl) ?_
   refine zS [(79, .bool ((((kg l a).2 : Nat) : Int) == 0)), (76, .bool ((((kg l a).2 : Nat) : Int) == 0))] ?_
   refine zO ((((kg l a).2 : Nat) : Int) == 0) (fun hc79 => ?_) (fun hc79 => ?_)
   ·
    replace hc79 : (((kg l a).2 : Nat) : Int) = 0 := (eq_of_beq hc79)
    refine zQ ?_
    refine st (by rfl) (S_val (v := .agg #[.int .u64 (((kg l c).1 : Nat) : Int), .int .u64 (((kg l c).2 : Nat) : Int)]) (R_loadA [.int .u64 (((kg l c).1 : Nat) : Int), .int .u64 (((kg l c).2 : Nat) : Int)] (by kernel_rfl) (by kernel_rfl) (by kernel_rfl) (fun k u hk => by rw [hB57.cell]; exact get_part _ 0 _ k u rfl hk)) ?_)
    refine st (by rfl) (S_storeA (b := w1.heap.size) (j := 0) (cs := [.int .u64 (((kg l c).1 : Nat) : Int), .int .u64 (((kg l c).2 : Nat) : Int)]) (by kernel_rfl) (by kernel_rfl) (by kernel_rfl) (by simp [oneV]) hB10 (by simp) fun w80 hT81 hs82 hB10' => ?_)
    have hT0 := (hT0).then hT81 (fun c e => by have : c = w1.heap.size := e; omega)
    have hL := hL.tchS hT81 (fun c e q => by cases e; exact nF_hB10 q)
    have hP := hP.tch hT81 (hP.ne hB10 (by decide))
    have hM := hM.tch hT81 (fun e => hM.ne hB10 e)
    have hB4 := hB4.tch hT81 (hB4.ne hB10 (by decide))
    have hB22 := hB22.tch hT81 (fun e => by have : w16.heap.size = w1.heap.size := e; omega)
    have hB44 := hB44.tch hT81 (fun e => by have : w38.heap.size = w1.heap.size := e; omega)
    have hB57 := hB57.tch hT81 (fun e => by have : w41.heap.size = w1.heap.size := e; omega)
    replace hB10 : Blk w80 w1.heap.size 113 [.int .u64 (((kg l c).1 : Nat) : Int), .int .u64 (((kg l c).2 : Nat) : Int)] := hB10'
    refine op_nil ?_
    refine W_ret ?_
    refine ⟨_, Res_cell (b := w1.heap.size) (cs := [.int .u64 (((kg l c).1 : Nat) : Int), .int .u64 (((kg l c).2 : Nat) : Int)]) (by rfl) (by kernel_rfl) (by kernel_rfl) hB10 (by kernel_rfl) (by kernel_rfl), ?_⟩
    have e : rone 22 nw wd up (kg l a) (kg l b) (kg l c) lo V = kg l c := by show (if (kg l a).1 = 1 then _ else if (kg l a).2 = 0 then _ else _) = _; (repeat (first | rw [if_pos (by omega)] | rw [if_neg (by omega)]))
    rw [e]
    exact ⟨rfl, hT0⟩
   ·
    replace hc79 : (((kg l a).2 : Nat) : Int) ≠ 0 := (ne_of_beq_false hc79)
    refine W_skip ?_
    refine zQ ?_
    refine zS [(81, .pointer (some ⟨w38.heap.size, 0, none⟩))] ?_
    refine zL (.int .u64 (((kg l b).1 : Nat) : Int)) ((hB44.cell 0).trans rfl) ?_
    refine zS [(83, .pointer (some ⟨w41.heap.size, 0, none⟩))] ?_
    refine zL (.int .u64 (((kg l c).1 : Nat) : Int)) ((hB57.cell 0).trans rfl) ?_
    refine zS [(85, .int .u64 (if (((kg l c).1 : Nat) : Int) < (((kg l b).1 : Nat) : Int) then (((kg l c).1 : Nat) : Int) else (((kg l b).1 : Nat) : Int)))] ?_
    rw [show (if (((kg l c).1 : Nat) : Int) < (((kg l b).1 : Nat) : Int) then (((kg l c).1 : Nat) : Int) else (((kg l b).1 : Nat) : Int)) = ((min ((kg l b).1) ((kg l c).1) : Nat) : Int) from min_u ((kg l b).1) ((kg l c).1)]
    have hu83 : min ((kg l b).1) ((kg l c).1) < 18446744073709551616 := min_lt64 ub1
    refine zS [(86, .pointer (some ⟨w38.heap.size, 1, none⟩))] ?_
    refine zL (.int .u64 (((kg l b).2 : Nat) : Int)) ((hB44.cell 1).trans rfl) ?_
    refine zS [(88, .pointer (some ⟨w41.heap.size, 1, none⟩))] ?_
    refine zL (.int .u64 (((kg l c).2 : Nat) : Int)) ((hB57.cell 1).trans rfl) ?_
    refine zS [(90, .int .u64 (if (((kg l b).2 : Nat) : Int) < (((kg l c).2 : Nat) : Int) then (((kg l c).2 : Nat) : Int) else (((kg l b).2 : Nat) : Int)))] ?_
    rw [show (if (((kg l b).2 : Nat) : Int) < (((kg l c).2 : Nat) : Int) then (((kg l c).2 : Nat) : Int) else (((kg l b).2 : Nat) : Int)) = ((max ((kg l b).2) ((kg l c).2) : Nat) : Int) from max_u ((kg l b).2) ((kg l c).2)]
    have hu84 : max ((kg l b).2) ((kg l c).2) < 18446744073709551616 := max_lt64 ub2 uc2
    refine zS [(91, .agg #[.int .u64 ((min ((kg l b).1) ((kg l c).1) : Nat) : Int), .int .u64 ((max ((kg l b).2) ((kg l c).2) : Nat) : Int)])] ?_
    refine st (by rfl) (S_storeA (b := w1.heap.size) (j := 0) (cs := [.int .u64 ((min ((kg l b).1) ((kg l c).1) : Nat) : Int), .int .u64 ((max ((kg l b).2) ((kg l c).2) : Nat) : Int)]) (by kernel_rfl) (by kernel_rfl) (by kernel_rfl) (by simp [oneV]) hB10 (by simp) fun w85 hT86 hs87 hB10' => ?_)
    have hT0 := (hT0).then hT86 (fun c e => by have : c = w1.heap.size := e; omega)
    have hL := hL.tchS hT86 (fun c e q => by cases e; exact nF_hB10 q)
    have hP := hP.tch hT86 (hP.ne hB10 (by decide))
    have hM := hM.tch hT86 (fun e => hM.ne hB10 e)
    have hB4 := hB4.tch hT86 (hB4.ne hB10 (by decide))
    have hB22 := hB22.tch hT86 (fun e => by have : w16.heap.size = w1.heap.size := e; omega)
    have hB44 := hB44.tch hT86 (fun e => by have : w38.heap.size = w1.heap.size := e; omega)
    have hB57 := hB57.tch hT86 (fun e => by have : w41.heap.size = w1.heap.size := e; omega)
    replace hB10 : Blk w85 w1.heap.size 113 [.int .u64 ((min ((kg l b).1) ((kg l c).1) : Nat) : Int), .int .u64 ((max ((kg l b).2) ((kg l c).2) : Nat) : Int)] := hB10'
    refine op_nil ?_
    refine W_ret ?_
    refine ⟨_, Res_cell (b := w1.heap.size) (cs := [.int .u64 ((min ((kg l b).1) ((kg l c).1) : Nat) : Int), .int .u64 ((max ((kg l b).2) ((kg l c).2) : Nat) : Int)]) (by rfl) (by kernel_rfl) (by kernel_rfl) hB10 (by kernel_rfl) (by kernel_rfl), ?_⟩
    have e : rone 22 nw wd up (kg l a) (kg l b) (kg l c) lo V = (min ((kg l b).1) ((kg l c).1), max ((kg l b).2) ((kg l c).2)) := by show (if (kg l a).1 = 1 then _ else if (kg l a).2 = 0 then _ else _) = _; (repeat (first | rw [if_pos (by omega)] | rw [if_neg (by omega)]))
    rw [e]
    exact ⟨rfl, hT0⟩
 ·
  have hlt_ := hL.lt
  have lt92 := hP.lt
  have lt93 := hB4.lt
  have lt94 := hB10.lt
  have lt95 := hB22.lt
  have z96 := hT0.size
  have l97 := hP.lt
  have l98 := hB4.lt
  have l99 := hB10.lt
  have l100 := hB22.lt
  refine (S_new (v := .pointer (some ⟨w38.heap.size, 0, none⟩)) (ob := .cells #[.int .u64 0, .int .u64 0] 113) (by kernel_rfl) fun w88 hT89 hs90 hB91 => ?_)
  replace hB91 : Blk w88 (w38.heap.size) 113 [.int .u64 0, .int .u64 0] := hB91
  have hT0 := hT0.t0 hT89
  have hL := hL.tch0 hT89
  have hP := hP.tch0 hT89
  have hM := hM.tch0 hT89
  have hB4 := hB4.tch0 hT89
  have hB10 := hB10.tch0 hT89
  have hB22 := hB22.tch0 hT89
  have nF_hB91 : ¬ F (w38.heap.size) := fun e => by have := hlt_ _ e; omega
  refine ⟨⟨hM, hP, hB4⟩, ?_⟩
  have hlt_ := hL.lt
  have lt105 := hP.lt
  have lt106 := hB4.lt
  have lt107 := hB10.lt
  have lt108 := hB22.lt
  have lt109 := hB91.lt
  have z110 := hT0.size
  have l111 := hP.lt
  have l112 := hB4.lt
  have l113 := hB10.lt
  have l114 := hB22.lt
  have l115 := hB91.lt
  refine zD 14 rfl (S_new (v := .pointer (some ⟨w88.heap.size, 0, none⟩)) (ob := .cells #[.int .u64 0, .int .u64 0] 113) (by kernel_rfl) fun w101 hT102 hs103 hB104 => ?_)
  replace hB104 : Blk w101 (w88.heap.size) 113 [.int .u64 0, .int .u64 0] := hB104
  have hT0 := hT0.t0 hT102
  have hL := hL.tch0 hT102
  have hP := hP.tch0 hT102
  have hM := hM.tch0 hT102
  have hB4 := hB4.tch0 hT102
  have hB10 := hB10.tch0 hT102
  have hB22 := hB22.tch0 hT102
  have hB91 := hB91.tch0 hT102
  have nF_hB104 : ¬ F (w88.heap.size) := fun e => by have := hlt_ _ e; omega
  refine ⟨⟨hM, hP, hB4⟩, ?_⟩
  refine zD 16 rfl (S_storeA (b := w88.heap.size) (j := 0) (cs := [.int .u64 (((kg l b).1 : Nat) : Int), .int .u64 (((kg l b).2 : Nat) : Int)]) (by kernel_rfl) (by kernel_rfl) (by kernel_rfl) (by simp [oneV]) hB104 (by simp) fun w116 hT117 hs118 hB104' => ?_)
  have hT0 := (hT0).then hT117 (fun c e => by have : c = w88.heap.size := e; omega)
  have hL := hL.tchS hT117 (fun c e q => by cases e; exact nF_hB104 q)
  have hP := hP.tch hT117 (hP.ne hB104 (by decide))
  have hM := hM.tch hT117 (fun e => hM.ne hB104 e)
  have hB4 := hB4.tch hT117 (hB4.ne hB104 (by decide))
  have hB10 := hB10.tch hT117 (fun e => by have : w1.heap.size = w88.heap.size := e; omega)
  have hB22 := hB22.tch hT117 (fun e => by have : w16.heap.size = w88.heap.size := e; omega)
  have hB91 := hB91.tch hT117 (fun e => by have : w38.heap.size = w88.heap.size := e; omega)
  replace hB104 : Blk w116 w88.heap.size 113 [.int .u64 (((kg l b).1 : Nat) : Int), .int .u64 (((kg l b).2 : Nat) : Int)] := hB104'
  refine ⟨⟨hM, hP, hB4⟩, ?_⟩
  refine zD 17 rfl (S_storeA (b := w38.heap.size) (j := 0) (cs := [.int .u64 (((kg l c).1 : Nat) : Int), .int .u64 (((kg l c).2 : Nat) : Int)]) (by kernel_rfl) (by kernel_rfl) (by kernel_rfl) (by simp [oneV]) hB91 (by simp) fun w119 hT120 hs121 hB91' => ?_)
  have hT0 := (hT0).then hT120 (fun c e => by have : c = w38.heap.size := e; omega)
  have hL := hL.tchS hT120 (fun c e q => by cases e; exact nF_hB91 q)
  have hP := hP.tch hT120 (hP.ne hB91 (by decide))
  have hM := hM.tch hT120 (fun e => hM.ne hB91 e)
  have hB4 := hB4.tch hT120 (hB4.ne hB91 (by decide))
  have hB10 := hB10.tch hT120 (fun e => by have : w1.heap.size = w38.heap.size := e; omega)
  have hB22 := hB22.tch hT120 (fun e => by have : w16.heap.size = w38.heap.size := e; omega)
  have hB104 := hB104.tch hT120 (fun e => by have : w88.heap.size = w38.heap.size := e; omega)
  replace hB91 : Blk w119 w38.heap.size 113 [.int .u64 (((kg l c).1 : Nat) : Int), .int .u64 (((kg l c).2 : Nat) : Int)] := hB91'
  refine ⟨⟨hM, hP, hB4⟩, ?_⟩
  refine d_done (by kernel_rfl) ?_
  refine W_seq ?_
  refine W_block ?_
  refine zQ ?_
  refine zS [(72, .pointer (some ⟨w16.heap.size, 0, none⟩))] ?_
  refine zL (.int .u64 (((kg l a).1 : Nat) : Int)) ((hB22.cell 0).trans rfl) ?_
  refine zS [(74, .bool ((((kg l a).1 : Nat) : Int) == 1)), (71, .bool ((((kg l a).1 : Nat) : Int) == 1))] ?_
  refine zO ((((kg l a).1 : Nat) : Int) == 1) (fun hc122 => ?_) (fun hc122 => ?_)
  ·
   replace hc122 : (((kg l a).1 : Nat) : Int) = 1 := (eq_of_beq hc122)
   refine zQ ?_
   refine st (by rfl) (S_val (v := .agg #[.int .u64 (((kg l b).1 : Nat) : Int), .int .u64 (((kg l b).2 : Nat) : Int)]) (R_loadA [.int .u64 (((kg l b).1 : Nat) : Int), .int .u64 (((kg l b).2 : Nat) : Int)] (by kernel_rfl) (by kernel_rfl) (by kernel_rfl) (fun k u hk => by rw [hB104.cell]; exact get_part _ 0 _ k u rfl hk)) ?_)
   refine st (by rfl) (S_storeA (b := w1.heap.size) (j := 0) (cs := [.int .u64 (((kg l b).1 : Nat) : Int), .int .u64 (((kg l b).2 : Nat) : Int)]) (by kernel_rfl) (by kernel_rfl) (by kernel_rfl) (by simp [oneV]) hB10 (by simp) fun w123 hT124 hs125 hB10' => ?_)
   have hT0 := (hT0).then hT124 (fun c e => by have : c = w1.heap.size := e; omega)
   have hL := hL.tchS hT124 (fun c e q => by cases e; exact nF_hB10 q)
   have hP := hP.tch hT124 (hP.ne hB10 (by decide))
   have hM := hM.tch hT124 (fun e => hM.ne hB10 e)
   have hB4 := hB4.tch hT124 (hB4.ne hB10 (by decide))
   have hB22 := hB22.tch hT124 (fun e => by have : w16.heap.size = w1.heap.size := e; omega)
   have hB91 := hB91.tch hT124 (fun e => by have : w38.heap.size = w1.heap.size := e; omega)
   have hB104 := hB104.tch hT124 (fun e => by have : w88.heap.size = w1.heap.size := e; omega)
   replace hB10 : Blk w123 w1.heap.size 113 [.int .u64 (((kg l b).1 : Nat) : Int), .int .u64 (((kg l b).2 : Nat) : Int)] := hB10'
   refine op_nil ?_
   refine W_ret ?_
   refine ⟨_, Res_cell (b := w1.heap.size) (cs := [.int .u64 (((kg l b).1 : Nat) : Int), .int .u64 (((kg l b).2 : Nat) : Int)]) (by rfl) (by kernel_rfl) (by kernel_rfl) hB10 (by kernel_rfl) (by kernel_rfl), ?_⟩
   have e : rone 22 nw wd up (kg l a) (kg l b) (kg l c) lo V = kg l b := by show (if (kg l a).1 = 1 then _ else if (kg l a).2 = 0 then _ else _) = _; (repeat (first | rw [if_pos (by omega)] | rw [if_neg (by omega)]))
   rw [e]
   exact ⟨rfl, hT0⟩
  ·
   replace hc122 : (((kg l a).1 : Nat) : Int) ≠ 1 := (ne_of_beq_false hc122)
   refine zQ ?_
   refine zS [(77, .pointer (some ⟨w16.heap.size, 1, none⟩))] ?_
   refine zL (.int .u64 (((kg l a).2 : Nat) : Int)) ((hB22.cell 1).trans rfl) ?_
   refine zS [(79, .bool ((((kg l a).2 : Nat) : Int) == 0)), (76, .bool ((((kg l a).2 : Nat) : Int) == 0))] ?_
   refine zO ((((kg l a).2 : Nat) : Int) == 0) (fun hc126 => ?_) (fun hc126 => ?_)
   ·
    replace hc126 : (((kg l a).2 : Nat) : Int) = 0 := (eq_of_beq hc126)
    refine zQ ?_
    refine st (by rfl) (S_val (v := .agg #[.int .u64 (((kg l c).1 : Nat) : Int), .int .u64 (((kg l c).2 : Nat) : Int)]) (R_loadA [.int .u64 (((kg l c).1 : Nat) : Int), .int .u64 (((kg l c).2 : Nat) : Int)] (by kernel_rfl) (by kernel_rfl) (by kernel_rfl) (fun k u hk => by rw [hB91.cell]; exact get_part _ 0 _ k u rfl hk)) ?_)
    refine st (by rfl) (S_storeA (b := w1.heap.size) (j := 0) (cs := [.int .u64 (((kg l c).1 : Nat) : Int), .int .u64 (((kg l c).2 : Nat) : Int)]) (by kernel_rfl) (by kernel_rfl) (by kernel_rfl) (by simp [oneV]) hB10 (by simp) fun w127 hT128 hs129 hB10' => ?_)
    have hT0 := (hT0).then hT128 (fun c e => by have : c = w1.heap.size := e; omega)
    have hL := hL.tchS hT128 (fun c e q => by cases e; exact nF_hB10 q)
    have hP := hP.tch hT128 (hP.ne hB10 (by decide))
    have hM := hM.tch hT128 (fun e => hM.ne hB10 e)
    have hB4 := hB4.tch hT128 (hB4.ne hB10 (by decide))
    have hB22 := hB22.tch hT128 (fun e => by have : w16.heap.size = w1.heap.size := e; omega)
    have hB91 := hB91.tch hT128 (fun e => by have : w38.heap.size = w1.heap.size := e; omega)
    have hB104 := hB104.tch hT128 (fun e => by have : w88.heap.size = w1.heap.size := e; omega)
    replace hB10 : Blk w127 w1.heap.size 113 [.int .u64 (((kg l c).1 : Nat) : Int), .int .u64 (((kg l c).2 : Nat) : Int)] := hB10'
    refine op_nil ?_
    refine W_ret ?_
    refine ⟨_, Res_cell (b := w1.heap.size) (cs := [.int .u64 (((kg l c).1 : Nat) : Int), .int .u64 (((kg l c).2 : Nat) : Int)]) (by rfl) (by kernel_rfl) (by kernel_rfl) hB10 (by kernel_rfl) (by kernel_rfl), ?_⟩
    have e : rone 22 nw wd up (kg l a) (kg l b) (kg l c) lo V = kg l c := by show (if (kg l a).1 = 1 then _ else if (kg l a).2 = 0 then _ else _) = _; (repeat (first | rw [if_pos (by omega)] | rw [if_neg (by omega)]))
    rw [e]
    exact ⟨rfl, hT0⟩
   ·
    replace hc126 : (((kg l a).2 : Nat) : Int) ≠ 0 := (ne_of_beq_false hc126)
    refine W_skip ?_
    refine zQ ?_
    refine zS [(81, .pointer (some ⟨w88.heap.size, 0, none⟩))] ?_
    refine zL (.int .u64 (((kg l b).1 : Nat) : Int)) ((hB104.cell 0).trans rfl) ?_
    refine zS [(83, .pointer (some ⟨w38.heap.size, 0, none⟩))] ?_
    refine zL (.int .u64 (((kg l c).1 : Nat) : Int)) ((hB91.cell 0).trans rfl) ?_
    refine zS [(85, .int .u64 (if (((kg l c).1 : Nat) : Int) < (((kg l b).1 : Nat) : Int) then (((kg l c).1 : Nat) : Int) else (((kg l b).1 : Nat) : Int)))] ?_
    rw [show (if (((kg l c).1 : Nat) : Int) < (((kg l b).1 : Nat) : Int) then (((kg l c).1 : Nat) : Int) else (((kg l b).1 : Nat) : Int)) = ((min ((kg l b).1) ((kg l c).1) : Nat) : Int) from min_u ((kg l b).1) ((kg l c).1)]
    have hu130 : min ((kg l b).1) ((kg l c).1) < 18446744073709551616 := min_lt64 ub1
    refine zS [(86, .pointer (some ⟨w88.heap.size, 1, none⟩))] ?_
    refine zL (.int .u64 (((kg l b).2 : Nat) : Int)) ((hB104.cell 1).trans rfl) ?_
    refine zS [(88, .pointer (some ⟨w38.heap.size, 1, none⟩))] ?_
    refine zL (.int .u64 (((kg l c).2 : Nat) : Int)) ((hB91.cell 1).trans rfl) ?_
    refine zS [(90, .int .u64 (if (((kg l b).2 : Nat) : Int) < (((kg l c).2 : Nat) : Int) then (((kg l c).2 : Nat) : Int) else (((kg l b).2 : Nat) : Int)))] ?_
    rw [show (if (((kg l b).2 : Nat) : Int) < (((kg l c).2 : Nat) : Int) then (((kg l c).2 : Nat) : Int) else (((kg l b).2 : Nat) : Int)) = ((max ((kg l b).2) ((kg l c).2) : Nat) : Int) from max_u ((kg l b).2) ((kg l c).2)]
    have hu131 : max ((kg l b).2) ((kg l c).2) < 18446744073709551616 := max_lt64 ub2 uc2
    refine zS [(91, .agg #[.int .u64 ((min ((kg l b).1) ((kg l c).1) : Nat) : Int), .int .u64 ((max ((kg l b).2) ((kg l c).2) : Nat) : Int)])] ?_
    refine st (by rfl) (S_storeA (b := w1.heap.size) (j := 0) (cs := [.int .u64 ((min ((kg l b).1) ((kg l c).1) : Nat) : Int), .int .u64 ((max ((kg l b).2) ((kg l c).2) : Nat) : Int)]) (by kernel_rfl) (by kernel_rfl) (by kernel_rfl) (by simp [oneV]) hB10 (by simp) fun w132 hT133 hs134 hB10' => ?_)
    have hT0 := (hT0).then hT133 (fun c e => by have : c = w1.heap.size := e; omega)
    have hL := hL.tchS hT133 (fun c e q => by cases e; exact nF_hB10 q)
    have hP := hP.tch hT133 (hP.ne hB10 (by decide))
    have hM := hM.tch hT133 (fun e => hM.ne hB10 e)
    have hB4 := hB4.tch hT133 (hB4.ne hB10 (by decide))
    have hB22 := hB22.tch hT133 (fun e => by have : w16.heap.size = w1.heap.size := e; omega)
    have hB91 := hB91.tch hT133 (fun e => by have : w38.heap.size = w1.heap.size := e; omega)
    have hB104 := hB104.tch hT133 (fun e => by have : w88.heap.size = w1.heap.size := e; omega)
    replace hB10 : Blk w132 w1.heap.size 113 [.int .u64 ((min ((kg l b).1) ((kg l c).1) : Nat) : Int), .int .u64 ((max ((kg l b).2) ((kg l c).2) : Nat) : Int)] := hB10'
    refine op_nil ?_
    refine W_ret ?_
    refine ⟨_, Res_cell (b := w1.heap.size) (cs := [.int .u64 ((min ((kg l b).1) ((kg l c).1) : Nat) : Int), .int .u64 ((max ((kg l b).2) ((kg l c).2) : Nat) : Int)]) (by rfl) (by kernel_rfl) (by kernel_rfl) hB10 (by kernel_rfl) (by kernel_rfl), ?_⟩
    have e : rone 22 nw wd up (kg l a) (kg l b) (kg l c) lo V = (min ((kg l b).1) ((kg l c).1), max ((kg l b).2) ((kg l c).2)) := by show (if (kg l a).1 = 1 then _ else if (kg l a).2 = 0 then _ else _) = _; (repeat (first | rw [if_pos (by omega)] | rw [if_neg (by omega)]))
    rw [e]
    exact ⟨rfl, hT0⟩

set_option maxRecDepth 100000 in
theorem sp23_ok (F : Nat → Prop) (p : Nat) (most : Int) (N : List Nd) (W : Value → Value → Prop) (f k mb : Nat) (l : List K) (nw wd up a lo : Nat) (xc xv : Int) (y z : K) (V : Nat) (w : World) (hL : TLow F w p most N W) (hN : N.length ≤ 65536) (hP : Blk w f 111 [.pointer (some ⟨p, 0, none⟩), .map (some mb)]) (hM : MapE Try.prog 3 w mb (spR l)) (hlk : l.length = k) (hk6 : k ≤ 65536) (ha : a < k) (hwa : widF N ((a : Nat) : Int) = ((wd : Nat) : Int)) (hxa : RI wd (kg l a)) (hw : wd ≤ 64) (hnw : nw ≤ 64) : Ret Try.prog 54 [.pointer (some ⟨f, 0, none⟩), .agg #[.int .i64 23, .int .i64 ((nw : Nat) : Int), .int .i64 ((a : Nat) : Int), .int .i64 ((lo : Nat) : Int), .int .i64 xc, .int .u64 xv]] w fun v w' => v = .agg #[.int .u64 (((rone 23 nw wd up (kg l a) y z lo V).1 : Nat) : Int), .int .u64 (((rone 23 nw wd up (kg l a) y z lo V).2 : Nat) : Int)] ∧ Tch N0 w w' := by
 have hMl := hM.lt
 have hla1 := hxa.1
 have hla2 := hxa.2
 have ua1 := hxa.u1 (show wd ≤ 64 by omega)
 have ua2 := hxa.u2 (show wd ≤ 64 by omega)
 refine enter Try.func54 rfl rfl ?_
 refine zQ ?_
 have hlt_ := hL.lt
 have lt5 := hP.lt
 have l6 := hP.lt
 refine st (by rfl) (S_new (v := .pointer (some ⟨w.heap.size, 0, none⟩)) (ob := .cells #[.int .i64 23, .int .i64 ((nw : Nat) : Int), .int .i64 ((a : Nat) : Int), .int .i64 ((lo : Nat) : Int), .int .i64 xc, .int .u64 xv] 32) (by kernel_rfl) fun w1 hT2 hs3 hB4 => ?_)
 replace hB4 : Blk w1 (w.heap.size) 32 [.int .i64 23, .int .i64 ((nw : Nat) : Int), .int .i64 ((a : Nat) : Int), .int .i64 ((lo : Nat) : Int), .int .i64 xc, .int .u64 xv] := hB4
 have hT0 := hT2
 have hL := hL.tch0 hT2
 have hP := hP.tch0 hT2
 have hM := hM.tch0 hT2
 have nF_hB4 : ¬ F (w.heap.size) := fun e => by have := hlt_ _ e; omega
 have hlt_ := hL.lt
 have lt11 := hP.lt
 have lt12 := hB4.lt
 have z13 := hT0.size
 have l14 := hP.lt
 have l15 := hB4.lt
 refine st (by rfl) (S_new (v := .pointer (some ⟨w1.heap.size, 0, none⟩)) (ob := .cells #[.int .u64 0, .int .u64 0] 113) (by kernel_rfl) fun w7 hT8 hs9 hB10 => ?_)
 replace hB10 : Blk w7 (w1.heap.size) 113 [.int .u64 0, .int .u64 0] := hB10
 have hT0 := hT0.t0 hT8
 have hL := hL.tch0 hT8
 have hP := hP.tch0 hT8
 have hM := hM.tch0 hT8
 have hB4 := hB4.tch0 hT8
 have nF_hB10 : ¬ F (w1.heap.size) := fun e => by have := hlt_ _ e; omega
 refine op_nil ?_
 refine W_seq ?_
 refine W_draw (fun w' => MapE Try.prog 3 w' mb (spR l) ∧ Blk w' (f) 111 [.pointer (some ⟨p, 0, none⟩), .map (some mb)] ∧ Blk w' (w.heap.size) 32 [.int .i64 23, .int .i64 ((nw : Nat) : Int), .int .i64 ((a : Nat) : Int), .int .i64 ((lo : Nat) : Int), .int .i64 xc, .int .u64 xv]) (by kernel_rfl) (by kernel_rfl) (by kernel_rfl) fun w16 hT17 hh18 => ?_
 have hT0 := hT0.t0 hT17
 have hL := hL.tch0 hT17
 have hP := hP.tch0 hT17
 have hM := hM.tch0 hT17
 have hB4 := hB4.tch0 hT17
 have hB10 := hB10.tch0 hT17
 refine zK [0, 4, 1, 2] #[true, true, true, false, true, false, false, false, false] [(12, .pointer (some ⟨f, 0, none⟩)), (16, .pointer (some ⟨w.heap.size, 2, none⟩)), (13, .pointer (some ⟨f, 0, none⟩)), (14, .pointer (some ⟨f, 1, none⟩))] ⟨hM, hP, hB4⟩ ?_
 refine zV 3 rfl (.map (some mb)) (fun _ ⟨hM, hP, hB4⟩ => R_load (v := .map (some mb)) (by kernel_rfl) (by kernel_rfl) ((hP.cell 1).trans rfl)) ⟨hM, hP, hB4⟩ ?_
 refine zV 5 rfl (.int .i64 ((a : Nat) : Int)) (fun _ ⟨hM, hP, hB4⟩ => R_load (v := .int .i64 ((a : Nat) : Int)) (by kernel_rfl) (by kernel_rfl) ((hB4.cell 2).trans rfl)) ⟨hM, hP, hB4⟩ ?_
 refine zV 6 rfl (kV (kg l a)) (fun _ ⟨hM, hP, hB4⟩ => R_lookSp l a (by kernel_rfl) (by kernel_rfl) (by kernel_rfl) hM (by omega) (by unfold b64; omega)) ⟨hM, hP, hB4⟩ ?_
 have hlt_ := hL.lt
 have lt23 := hP.lt
 have lt24 := hB4.lt
 have lt25 := hB10.lt
 have z26 := hT0.size
 have l27 := hP.lt
 have l28 := hB4.lt
 have l29 := hB10.lt
 refine zD 7 rfl (S_new (v := .pointer (some ⟨w16.heap.size, 0, none⟩)) (ob := .cells #[.int .u64 0, .int .u64 0] 113) (by kernel_rfl) fun w19 hT20 hs21 hB22 => ?_)
 replace hB22 : Blk w19 (w16.heap.size) 113 [.int .u64 0, .int .u64 0] := hB22
 have hT0 := hT0.t0 hT20
 have hL := hL.tch0 hT20
 have hP := hP.tch0 hT20
 have hM := hM.tch0 hT20
 have hB4 := hB4.tch0 hT20
 have hB10 := hB10.tch0 hT20
 have nF_hB22 : ¬ F (w16.heap.size) := fun e => by have := hlt_ _ e; omega
 refine ⟨⟨hM, hP, hB4⟩, ?_⟩
 refine zD 8 rfl (S_storeA (b := w16.heap.size) (j := 0) (cs := [.int .u64 (((kg l a).1 : Nat) : Int), .int .u64 (((kg l a).2 : Nat) : Int)]) (by kernel_rfl) (by kernel_rfl) (by kernel_rfl) (by simp [oneV]) hB22 (by simp) fun w30 hT31 hs32 hB22' => ?_)
 have hT0 := (hT0).then hT31 (fun c e => by have : c = w16.heap.size := e; omega)
 have hL := hL.tchS hT31 (fun c e q => by cases e; exact nF_hB22 q)
 have hP := hP.tch hT31 (hP.ne hB22 (by decide))
 have hM := hM.tch hT31 (fun e => hM.ne hB22 e)
 have hB4 := hB4.tch hT31 (hB4.ne hB22 (by decide))
 have hB10 := hB10.tch hT31 (fun e => by have : w1.heap.size = w16.heap.size := e; omega)
 replace hB22 : Blk w30 w16.heap.size 113 [.int .u64 (((kg l a).1 : Nat) : Int), .int .u64 (((kg l a).2 : Nat) : Int)] := hB22'
 refine ⟨⟨hM, hP, hB4⟩, ?_⟩
 refine d_done (by kernel_rfl) ?_
 refine W_seq ?_
 refine W_draw (fun w' => MapE Try.prog 3 w' mb (spR l) ∧ Blk w' (f) 111 [.pointer (some ⟨p, 0, none⟩), .map (some mb)] ∧ Blk w' (w.heap.size) 32 [.int .i64 23, .int .i64 ((nw : Nat) : Int), .int .i64 ((a : Nat) : Int), .int .i64 ((lo : Nat) : Int), .int .i64 xc, .int .u64 xv]) (by kernel_rfl) (by kernel_rfl) (by kernel_rfl) fun w33 hT34 hh35 => ?_
 have hT0 := hT0.t0 hT34
 have hL := hL.tch0 hT34
 have hP := hP.tch0 hT34
 have hM := hM.tch0 hT34
 have hB4 := hB4.tch0 hT34
 have hB10 := hB10.tch0 hT34
 have hB22 := hB22.tch0 hT34
 refine zK [0, 4, 1, 2] #[true, true, true, false, true, false, false, false] [(19, .pointer (some ⟨f, 0, none⟩)), (23, .pointer (some ⟨w.heap.size, 2, none⟩)), (20, .pointer (some ⟨f, 0, none⟩)), (21, .pointer (some ⟨f, 0, none⟩))] ⟨hM, hP, hB4⟩ ?_
 refine zV 3 rfl (.pointer (some ⟨p, 0, none⟩)) (fun _ ⟨hM, hP, hB4⟩ => R_load (v := .pointer (some ⟨p, 0, none⟩)) (by kernel_rfl) (by kernel_rfl) ((hP.cell 0).trans rfl)) ⟨hM, hP, hB4⟩ ?_
 refine zV 5 rfl (.int .i64 ((a : Nat) : Int)) (fun _ ⟨hM, hP, hB4⟩ => R_load (v := .int .i64 ((a : Nat) : Int)) (by kernel_rfl) (by kernel_rfl) ((hB4.cell 2).trans rfl)) ⟨hM, hP, hB4⟩ ?_
 refine zD 6 rfl (S_call (args := [.pointer (some ⟨p, 0, none⟩), .int .i64 ((a : Nat) : Int)]) (by kernel_rfl) ((by have q := width_ok F p most N W ((a : Nat) : Int) _ hL hN; rw [hwa] at q; exact q)) ?_)
 rintro _ w36 ⟨rfl, hT37⟩
 have hT0 := hT0.t0 hT37
 have hL := hL.tch0 hT37
 have hP := hP.tch0 hT37
 have hM := hM.tch0 hT37
 have hB4 := hB4.tch0 hT37
 have hB10 := hB10.tch0 hT37
 have hB22 := hB22.tch0 hT37
 refine ⟨⟨hM, hP, hB4⟩, ?_⟩
 refine zK [7] #[true, true, true, true, true, true, true, true] [(6, .int .i64 ((wd : Nat) : Int))] ⟨hM, hP, hB4⟩ ?_
 refine d_done (by kernel_rfl) ?_
 refine W_seq ?_
 refine zQ ?_
 refine zS [(26, .pointer (some ⟨w.heap.size, 0, none⟩))] ?_
 refine zL (.int .i64 23) ((hB4.cell 0).trans rfl) ?_
 refine op_nil ?_
 refine W_block ?_
 refine zQ ?_
 refine zS [(29, .bool false), (28, .bool false)] ?_
 refine zO false (fun h => nomatch h) (fun _ => ?_)
 refine W_seq ?_
 refine zQ ?_
 refine zS [(36, .bool false), (35, .bool false)] ?_
 refine zO false (fun h => nomatch h) (fun _ => ?_)
 refine zR ?_
 refine zS [(37, .bool false), (35, .bool false)] ?_
 refine zO false (fun h => nomatch h) (fun _ => ?_)
 refine zQ ?_
 refine zS [(42, .bool false), (41, .bool false)] ?_
 refine zO false (fun h => nomatch h) (fun _ => ?_)
 refine zQ ?_
 refine zS [(56, .bool false), (55, .bool false)] ?_
 refine zO false (fun h => nomatch h) (fun _ => ?_)
 refine zQ ?_
 refine zS [(93, .bool true), (92, .bool true)] ?_
 refine zO true (fun _ => ?_) (fun h => nomatch h)
 refine W_seq ?_
 refine W_seq ?_
 refine W_draw (fun w' => Blk w' (w.heap.size) 32 [.int .i64 23, .int .i64 ((nw : Nat) : Int), .int .i64 ((a : Nat) : Int), .int .i64 ((lo : Nat) : Int), .int .i64 xc, .int .u64 xv] ∧ Blk w' (w16.heap.size) 113 [.int .u64 (((kg l a).1 : Nat) : Int), .int .u64 (((kg l a).2 : Nat) : Int)]) (by kernel_rfl) (by kernel_rfl) (by kernel_rfl) fun w38 hT39 hh40 => ?_
 have hT0 := hT0.t0 hT39
 have hL := hL.tch0 hT39
 have hP := hP.tch0 hT39
 have hM := hM.tch0 hT39
 have hB4 := hB4.tch0 hT39
 have hB10 := hB10.tch0 hT39
 have hB22 := hB22.tch0 hT39
 refine zK [0] #[true, false, false, false, false, false, false, false, false, false, false] [(94, .pointer (some ⟨w.heap.size, 3, none⟩))] ⟨hB4, hB22⟩ ?_
 refine zV 1 rfl (.int .i64 ((lo : Nat) : Int)) (fun _ ⟨hB4, hB22⟩ => R_load (v := .int .i64 ((lo : Nat) : Int)) (by kernel_rfl) (by kernel_rfl) ((hB4.cell 3).trans rfl)) ⟨hB4, hB22⟩ ?_
 refine zK [2, 3] #[true, true, true, true, false, false, false, false, false, false, false] [(96, .bool (((lo : Nat) : Int) == 0)), (97, .bool (((lo : Nat) : Int) == 0))] ⟨hB4, hB22⟩ ?_
 cases hb41 : ((lo : Nat) : Int) == 0
 ·
  replace hb41 : ((lo : Nat) : Int) ≠ 0 := (ne_of_beq_false hb41)
  refine zK [4, 6, 5, 7, 8, 9, 10] #[true, true, true, true, true, true, true, true, true, true, true] [(98, undef), (100, undef), (99, undef), (101, undef), (102, undef), (103, undef), (104, .bool false)] ⟨hB4, hB22⟩ ?_
  refine d_done (by kernel_rfl) ?_
  refine zW false (fun h => nomatch h) (fun _ => ?_)
  refine W_skip ?_
  refine zQ ?_
  refine zS [(106, .pointer (some ⟨w.heap.size, 1, none⟩))] ?_
  refine zL (.int .i64 ((nw : Nat) : Int)) ((hB4.cell 1).trans rfl) ?_
  refine zC (all_ok nw _ (by omega)) ?_
  rintro _ w42 ⟨rfl, hT43⟩
  have hT0 := hT0.t0 hT43
  have hL := hL.tch0 hT43
  have hP := hP.tch0 hT43
  have hM := hM.tch0 hT43
  have hB4 := hB4.tch0 hT43
  have hB10 := hB10.tch0 hT43
  have hB22 := hB22.tch0 hT43
  refine st (by rfl) (S_storeA (b := w1.heap.size) (j := 0) (cs := [.int .u64 (((rall nw).1 : Nat) : Int), .int .u64 (((rall nw).2 : Nat) : Int)]) (by kernel_rfl) (by kernel_rfl) (by kernel_rfl) (by simp [oneV]) hB10 (by simp) fun w44 hT45 hs46 hB10' => ?_)
  have hT0 := (hT0).then hT45 (fun c e => by have : c = w1.heap.size := e; omega)
  have hL := hL.tchS hT45 (fun c e q => by cases e; exact nF_hB10 q)
  have hP := hP.tch hT45 (hP.ne hB10 (by decide))
  have hM := hM.tch hT45 (fun e => hM.ne hB10 e)
  have hB4 := hB4.tch hT45 (hB4.ne hB10 (by decide))
  have hB22 := hB22.tch hT45 (fun e => by have : w16.heap.size = w1.heap.size := e; omega)
  replace hB10 : Blk w44 w1.heap.size 113 [.int .u64 (((rall nw).1 : Nat) : Int), .int .u64 (((rall nw).2 : Nat) : Int)] := hB10'
  refine op_nil ?_
  refine W_ret ?_
  refine ⟨_, Res_cell (b := w1.heap.size) (cs := [.int .u64 (((rall nw).1 : Nat) : Int), .int .u64 (((rall nw).2 : Nat) : Int)]) (by rfl) (by kernel_rfl) (by kernel_rfl) hB10 (by kernel_rfl) (by kernel_rfl), ?_⟩
  have e : rone 23 nw wd up (kg l a) y z lo V = rall nw := by show (if lo = 0 ∧ (kg l a).2 ≤ pw nw - 1 then _ else rall nw) = _; first | rw [if_pos ⟨by omega, by omega⟩] | rw [if_neg (fun q => by omega)]
  rw [e]
  exact ⟨rfl, hT0⟩
 ·
  replace hb41 : ((lo : Nat) : Int) = 0 := (eq_of_beq hb41)
  refine zK [4, 6] #[true, true, true, true, true, false, true, false, false, false, false] [(98, .pointer (some ⟨w16.heap.size, 1, none⟩)), (100, .pointer (some ⟨w.heap.size, 1, none⟩))] ⟨hB4, hB22⟩ ?_
  refine zV 5 rfl (.int .u64 (((kg l a).2 : Nat) : Int)) (fun _ ⟨hB4, hB22⟩ => R_load (v := .int .u64 (((kg l a).2 : Nat) : Int)) (by kernel_rfl) (by kernel_rfl) ((hB22.cell 1).trans rfl)) ⟨hB4, hB22⟩ ?_
  refine zV 7 rfl (.int .i64 ((nw : Nat) : Int)) (fun _ ⟨hB4, hB22⟩ => R_load (v := .int .i64 ((nw : Nat) : Int)) (by kernel_rfl) (by kernel_rfl) ((hB4.cell 1).trans rfl)) ⟨hB4, hB22⟩ ?_
  refine zD 8 rfl (S_call (args := [.int .i64 ((nw : Nat) : Int)]) (by kernel_rfl) (mask_okN nw _ (by omega)) ?_)
  rintro _ w47 ⟨rfl, hT48⟩
  have hT0 := hT0.t0 hT48
  have hL := hL.tch0 hT48
  have hP := hP.tch0 hT48
  have hM := hM.tch0 hT48
  have hB4 := hB4.tch0 hT48
  have hB10 := hB10.tch0 hT48
  have hB22 := hB22.tch0 hT48
  have hu49 := pwm_lt (x := nw) (by omega)
  refine ⟨⟨hB4, hB22⟩, ?_⟩
  refine zK [9, 10] #[true, true, true, true, true, true, true, true, true, true, true] [(103, .bool (decide ((((kg l a).2 : Nat) : Int) ≤ ((pw nw - 1 : Nat) : Int)))), (104, .bool (decide ((((kg l a).2 : Nat) : Int) ≤ ((pw nw - 1 : Nat) : Int))))] ⟨hB4, hB22⟩ ?_
  refine d_done (by kernel_rfl) ?_
  refine zW (decide ((((kg l a).2 : Nat) : Int) ≤ ((pw nw - 1 : Nat) : Int))) (fun hc50 => ?_) (fun hc50 => ?_)
  ·
   replace hc50 : (((kg l a).2 : Nat) : Int) ≤ ((pw nw - 1 : Nat) : Int) := (of_decide_eq_true hc50)
   refine zQ ?_
   refine st (by rfl) (S_val (v := .agg #[.int .u64 (((kg l a).1 : Nat) : Int), .int .u64 (((kg l a).2 : Nat) : Int)]) (R_loadA [.int .u64 (((kg l a).1 : Nat) : Int), .int .u64 (((kg l a).2 : Nat) : Int)] (by kernel_rfl) (by kernel_rfl) (by kernel_rfl) (fun k u hk => by rw [hB22.cell]; exact get_part _ 0 _ k u rfl hk)) ?_)
   refine st (by rfl) (S_storeA (b := w1.heap.size) (j := 0) (cs := [.int .u64 (((kg l a).1 : Nat) : Int), .int .u64 (((kg l a).2 : Nat) : Int)]) (by kernel_rfl) (by kernel_rfl) (by kernel_rfl) (by simp [oneV]) hB10 (by simp) fun w51 hT52 hs53 hB10' => ?_)
   have hT0 := (hT0).then hT52 (fun c e => by have : c = w1.heap.size := e; omega)
   have hL := hL.tchS hT52 (fun c e q => by cases e; exact nF_hB10 q)
   have hP := hP.tch hT52 (hP.ne hB10 (by decide))
   have hM := hM.tch hT52 (fun e => hM.ne hB10 e)
   have hB4 := hB4.tch hT52 (hB4.ne hB10 (by decide))
   have hB22 := hB22.tch hT52 (fun e => by have : w16.heap.size = w1.heap.size := e; omega)
   replace hB10 : Blk w51 w1.heap.size 113 [.int .u64 (((kg l a).1 : Nat) : Int), .int .u64 (((kg l a).2 : Nat) : Int)] := hB10'
   refine op_nil ?_
   refine W_ret ?_
   refine ⟨_, Res_cell (b := w1.heap.size) (cs := [.int .u64 (((kg l a).1 : Nat) : Int), .int .u64 (((kg l a).2 : Nat) : Int)]) (by rfl) (by kernel_rfl) (by kernel_rfl) hB10 (by kernel_rfl) (by kernel_rfl), ?_⟩
   have e : rone 23 nw wd up (kg l a) y z lo V = kg l a := by show (if lo = 0 ∧ (kg l a).2 ≤ pw nw - 1 then _ else rall nw) = _; first | rw [if_pos ⟨by omega, by omega⟩] | rw [if_neg (fun q => by omega)]
   rw [e]
   exact ⟨rfl, hT0⟩
  ·
   replace hc50 : ((pw nw - 1 : Nat) : Int) < (((kg l a).2 : Nat) : Int) := (Int.not_le.1 (of_decide_eq_false hc50))
   refine W_skip ?_
   refine zQ ?_
   refine zS [(106, .pointer (some ⟨w.heap.size, 1, none⟩))] ?_
   refine zL (.int .i64 ((nw : Nat) : Int)) ((hB4.cell 1).trans rfl) ?_
   refine zC (all_ok nw _ (by omega)) ?_
   rintro _ w54 ⟨rfl, hT55⟩
   have hT0 := hT0.t0 hT55
   have hL := hL.tch0 hT55
   have hP := hP.tch0 hT55
   have hM := hM.tch0 hT55
   have hB4 := hB4.tch0 hT55
   have hB10 := hB10.tch0 hT55
   have hB22 := hB22.tch0 hT55
   refine st (by rfl) (S_storeA (b := w1.heap.size) (j := 0) (cs := [.int .u64 (((rall nw).1 : Nat) : Int), .int .u64 (((rall nw).2 : Nat) : Int)]) (by kernel_rfl) (by kernel_rfl) (by kernel_rfl) (by simp [oneV]) hB10 (by simp) fun w56 hT57 hs58 hB10' => ?_)
   have hT0 := (hT0).then hT57 (fun c e => by have : c = w1.heap.size := e; omega)
   have hL := hL.tchS hT57 (fun c e q => by cases e; exact nF_hB10 q)
   have hP := hP.tch hT57 (hP.ne hB10 (by decide))
   have hM := hM.tch hT57 (fun e => hM.ne hB10 e)
   have hB4 := hB4.tch hT57 (hB4.ne hB10 (by decide))
   have hB22 := hB22.tch hT57 (fun e => by have : w16.heap.size = w1.heap.size := e; omega)
   replace hB10 : Blk w56 w1.heap.size 113 [.int .u64 (((rall nw).1 : Nat) : Int), .int .u64 (((rall nw).2 : Nat) : Int)] := hB10'
   refine op_nil ?_
   refine W_ret ?_
   refine ⟨_, Res_cell (b := w1.heap.size) (cs := [.int .u64 (((rall nw).1 : Nat) : Int), .int .u64 (((rall nw).2 : Nat) : Int)]) (by rfl) (by kernel_rfl) (by kernel_rfl) hB10 (by kernel_rfl) (by kernel_rfl), ?_⟩
   have e : rone 23 nw wd up (kg l a) y z lo V = rall nw := by show (if lo = 0 ∧ (kg l a).2 ≤ pw nw - 1 then _ else rall nw) = _; first | rw [if_pos ⟨by omega, by omega⟩] | rw [if_neg (fun q => by omega)]
   rw [e]
   exact ⟨rfl, hT0⟩

set_option maxRecDepth 100000 in
theorem sp24_ok (F : Nat → Prop) (p : Nat) (most : Int) (N : List Nd) (W : Value → Value → Prop) (f k mb : Nat) (l : List K) (nw wd up a b : Nat) (xc xv : Int) (z : K) (lo V : Nat) (w : World) (hL : TLow F w p most N W) (hN : N.length ≤ 65536) (hP : Blk w f 111 [.pointer (some ⟨p, 0, none⟩), .map (some mb)]) (hM : MapE Try.prog 3 w mb (spR l)) (hlk : l.length = k) (hk6 : k ≤ 65536) (ha : a < k) (hb : b < k) (hwa : widF N ((a : Nat) : Int) = ((wd : Nat) : Int)) (hwb : widF N ((b : Nat) : Int) = ((up : Nat) : Int)) (hxa : RI wd (kg l a)) (hxb : RI up (kg l b)) (hw : wd + up ≤ 64) : Ret Try.prog 54 [.pointer (some ⟨f, 0, none⟩), .agg #[.int .i64 24, .int .i64 ((nw : Nat) : Int), .int .i64 ((a : Nat) : Int), .int .i64 ((b : Nat) : Int), .int .i64 xc, .int .u64 xv]] w fun v w' => v = .agg #[.int .u64 (((rone 24 nw wd up (kg l a) (kg l b) z lo V).1 : Nat) : Int), .int .u64 (((rone 24 nw wd up (kg l a) (kg l b) z lo V).2 : Nat) : Int)] ∧ Tch N0 w w' := by
 have hMl := hM.lt
 have hla1 := hxa.1
 have hla2 := hxa.2
 have ua1 := hxa.u1 (show wd ≤ 64 by omega)
 have ua2 := hxa.u2 (show wd ≤ 64 by omega)
 have hlb1 := hxb.1
 have hlb2 := hxb.2
 have ub1 := hxb.u1 (show up ≤ 64 by omega)
 have ub2 := hxb.u2 (show up ≤ 64 by omega)
 refine enter Try.func54 rfl rfl ?_
 refine zQ ?_
 have hlt_ := hL.lt
 have lt5 := hP.lt
 have l6 := hP.lt
 refine st (by rfl) (S_new (v := .pointer (some ⟨w.heap.size, 0, none⟩)) (ob := .cells #[.int .i64 24, .int .i64 ((nw : Nat) : Int), .int .i64 ((a : Nat) : Int), .int .i64 ((b : Nat) : Int), .int .i64 xc, .int .u64 xv] 32) (by kernel_rfl) fun w1 hT2 hs3 hB4 => ?_)
 replace hB4 : Blk w1 (w.heap.size) 32 [.int .i64 24, .int .i64 ((nw : Nat) : Int), .int .i64 ((a : Nat) : Int), .int .i64 ((b : Nat) : Int), .int .i64 xc, .int .u64 xv] := hB4
 have hT0 := hT2
 have hL := hL.tch0 hT2
 have hP := hP.tch0 hT2
 have hM := hM.tch0 hT2
 have nF_hB4 : ¬ F (w.heap.size) := fun e => by have := hlt_ _ e; omega
 have hlt_ := hL.lt
 have lt11 := hP.lt
 have lt12 := hB4.lt
 have z13 := hT0.size
 have l14 := hP.lt
 have l15 := hB4.lt
 refine st (by rfl) (S_new (v := .pointer (some ⟨w1.heap.size, 0, none⟩)) (ob := .cells #[.int .u64 0, .int .u64 0] 113) (by kernel_rfl) fun w7 hT8 hs9 hB10 => ?_)
 replace hB10 : Blk w7 (w1.heap.size) 113 [.int .u64 0, .int .u64 0] := hB10
 have hT0 := hT0.t0 hT8
 have hL := hL.tch0 hT8
 have hP := hP.tch0 hT8
 have hM := hM.tch0 hT8
 have hB4 := hB4.tch0 hT8
 have nF_hB10 : ¬ F (w1.heap.size) := fun e => by have := hlt_ _ e; omega
 refine op_nil ?_
 refine W_seq ?_
 refine W_draw (fun w' => MapE Try.prog 3 w' mb (spR l) ∧ Blk w' (f) 111 [.pointer (some ⟨p, 0, none⟩), .map (some mb)] ∧ Blk w' (w.heap.size) 32 [.int .i64 24, .int .i64 ((nw : Nat) : Int), .int .i64 ((a : Nat) : Int), .int .i64 ((b : Nat) : Int), .int .i64 xc, .int .u64 xv]) (by kernel_rfl) (by kernel_rfl) (by kernel_rfl) fun w16 hT17 hh18 => ?_
 have hT0 := hT0.t0 hT17
 have hL := hL.tch0 hT17
 have hP := hP.tch0 hT17
 have hM := hM.tch0 hT17
 have hB4 := hB4.tch0 hT17
 have hB10 := hB10.tch0 hT17
 refine zK [0, 4, 1, 2] #[true, true, true, false, true, false, false, false, false] [(12, .pointer (some ⟨f, 0, none⟩)), (16, .pointer (some ⟨w.heap.size, 2, none⟩)), (13, .pointer (some ⟨f, 0, none⟩)), (14, .pointer (some ⟨f, 1, none⟩))] ⟨hM, hP, hB4⟩ ?_
 refine zV 3 rfl (.map (some mb)) (fun _ ⟨hM, hP, hB4⟩ => R_load (v := .map (some mb)) (by kernel_rfl) (by kernel_rfl) ((hP.cell 1).trans rfl)) ⟨hM, hP, hB4⟩ ?_
 refine zV 5 rfl (.int .i64 ((a : Nat) : Int)) (fun _ ⟨hM, hP, hB4⟩ => R_load (v := .int .i64 ((a : Nat) : Int)) (by kernel_rfl) (by kernel_rfl) ((hB4.cell 2).trans rfl)) ⟨hM, hP, hB4⟩ ?_
 refine zV 6 rfl (kV (kg l a)) (fun _ ⟨hM, hP, hB4⟩ => R_lookSp l a (by kernel_rfl) (by kernel_rfl) (by kernel_rfl) hM (by omega) (by unfold b64; omega)) ⟨hM, hP, hB4⟩ ?_
 have hlt_ := hL.lt
 have lt23 := hP.lt
 have lt24 := hB4.lt
 have lt25 := hB10.lt
 have z26 := hT0.size
 have l27 := hP.lt
 have l28 := hB4.lt
 have l29 := hB10.lt
 refine zD 7 rfl (S_new (v := .pointer (some ⟨w16.heap.size, 0, none⟩)) (ob := .cells #[.int .u64 0, .int .u64 0] 113) (by kernel_rfl) fun w19 hT20 hs21 hB22 => ?_)
 replace hB22 : Blk w19 (w16.heap.size) 113 [.int .u64 0, .int .u64 0] := hB22
 have hT0 := hT0.t0 hT20
 have hL := hL.tch0 hT20
 have hP := hP.tch0 hT20
 have hM := hM.tch0 hT20
 have hB4 := hB4.tch0 hT20
 have hB10 := hB10.tch0 hT20
 have nF_hB22 : ¬ F (w16.heap.size) := fun e => by have := hlt_ _ e; omega
 refine ⟨⟨hM, hP, hB4⟩, ?_⟩
 refine zD 8 rfl (S_storeA (b := w16.heap.size) (j := 0) (cs := [.int .u64 (((kg l a).1 : Nat) : Int), .int .u64 (((kg l a).2 : Nat) : Int)]) (by kernel_rfl) (by kernel_rfl) (by kernel_rfl) (by simp [oneV]) hB22 (by simp) fun w30 hT31 hs32 hB22' => ?_)
 have hT0 := (hT0).then hT31 (fun c e => by have : c = w16.heap.size := e; omega)
 have hL := hL.tchS hT31 (fun c e q => by cases e; exact nF_hB22 q)
 have hP := hP.tch hT31 (hP.ne hB22 (by decide))
 have hM := hM.tch hT31 (fun e => hM.ne hB22 e)
 have hB4 := hB4.tch hT31 (hB4.ne hB22 (by decide))
 have hB10 := hB10.tch hT31 (fun e => by have : w1.heap.size = w16.heap.size := e; omega)
 replace hB22 : Blk w30 w16.heap.size 113 [.int .u64 (((kg l a).1 : Nat) : Int), .int .u64 (((kg l a).2 : Nat) : Int)] := hB22'
 refine ⟨⟨hM, hP, hB4⟩, ?_⟩
 refine d_done (by kernel_rfl) ?_
 refine W_seq ?_
 refine W_draw (fun w' => MapE Try.prog 3 w' mb (spR l) ∧ Blk w' (f) 111 [.pointer (some ⟨p, 0, none⟩), .map (some mb)] ∧ Blk w' (w.heap.size) 32 [.int .i64 24, .int .i64 ((nw : Nat) : Int), .int .i64 ((a : Nat) : Int), .int .i64 ((b : Nat) : Int), .int .i64 xc, .int .u64 xv]) (by kernel_rfl) (by kernel_rfl) (by kernel_rfl) fun w33 hT34 hh35 => ?_
 have hT0 := hT0.t0 hT34
 have hL := hL.tch0 hT34
 have hP := hP.tch0 hT34
 have hM := hM.tch0 hT34
 have hB4 := hB4.tch0 hT34
 have hB10 := hB10.tch0 hT34
 have hB22 := hB22.tch0 hT34
 refine zK [0, 4, 1, 2] #[true, true, true, false, true, false, false, false] [(19, .pointer (some ⟨f, 0, none⟩)), (23, .pointer (some ⟨w.heap.size, 2, none⟩)), (20, .pointer (some ⟨f, 0, none⟩)), (21, .pointer (some ⟨f, 0, none⟩))] ⟨hM, hP, hB4⟩ ?_
 refine zV 3 rfl (.pointer (some ⟨p, 0, none⟩)) (fun _ ⟨hM, hP, hB4⟩ => R_load (v := .pointer (some ⟨p, 0, none⟩)) (by kernel_rfl) (by kernel_rfl) ((hP.cell 0).trans rfl)) ⟨hM, hP, hB4⟩ ?_
 refine zV 5 rfl (.int .i64 ((a : Nat) : Int)) (fun _ ⟨hM, hP, hB4⟩ => R_load (v := .int .i64 ((a : Nat) : Int)) (by kernel_rfl) (by kernel_rfl) ((hB4.cell 2).trans rfl)) ⟨hM, hP, hB4⟩ ?_
 refine zD 6 rfl (S_call (args := [.pointer (some ⟨p, 0, none⟩), .int .i64 ((a : Nat) : Int)]) (by kernel_rfl) ((by have q := width_ok F p most N W ((a : Nat) : Int) _ hL hN; rw [hwa] at q; exact q)) ?_)
 rintro _ w36 ⟨rfl, hT37⟩
 have hT0 := hT0.t0 hT37
 have hL := hL.tch0 hT37
 have hP := hP.tch0 hT37
 have hM := hM.tch0 hT37
 have hB4 := hB4.tch0 hT37
 have hB10 := hB10.tch0 hT37
 have hB22 := hB22.tch0 hT37
 refine ⟨⟨hM, hP, hB4⟩, ?_⟩
 refine zK [7] #[true, true, true, true, true, true, true, true] [(6, .int .i64 ((wd : Nat) : Int))] ⟨hM, hP, hB4⟩ ?_
 refine d_done (by kernel_rfl) ?_
 refine W_seq ?_
 refine zQ ?_
 refine zS [(26, .pointer (some ⟨w.heap.size, 0, none⟩))] ?_
 refine zL (.int .i64 24) ((hB4.cell 0).trans rfl) ?_
 refine op_nil ?_
 refine W_block ?_
 refine zQ ?_
 refine zS [(29, .bool false), (28, .bool false)] ?_
 refine zO false (fun h => nomatch h) (fun _ => ?_)
 refine W_seq ?_
 refine zQ ?_
 refine zS [(36, .bool false), (35, .bool false)] ?_
 refine zO false (fun h => nomatch h) (fun _ => ?_)
 refine zR ?_
 refine zS [(37, .bool false), (35, .bool false)] ?_
 refine zO false (fun h => nomatch h) (fun _ => ?_)
 refine zQ ?_
 refine zS [(42, .bool false), (41, .bool false)] ?_
 refine zO false (fun h => nomatch h) (fun _ => ?_)
 refine zQ ?_
 refine zS [(56, .bool false), (55, .bool false)] ?_
 refine zO false (fun h => nomatch h) (fun _ => ?_)
 refine zQ ?_
 refine zS [(93, .bool false), (92, .bool false)] ?_
 refine zO false (fun h => nomatch h) (fun _ => ?_)
 refine zQ ?_
 refine zS [(110, .bool true), (109, .bool true)] ?_
 refine zO true (fun _ => ?_) (fun h => nomatch h)
 refine W_seq ?_
 refine W_draw (fun w' => MapE Try.prog 3 w' mb (spR l) ∧ Blk w' (f) 111 [.pointer (some ⟨p, 0, none⟩), .map (some mb)] ∧ Blk w' (w.heap.size) 32 [.int .i64 24, .int .i64 ((nw : Nat) : Int), .int .i64 ((a : Nat) : Int), .int .i64 ((b : Nat) : Int), .int .i64 xc, .int .u64 xv]) (by kernel_rfl) (by kernel_rfl) (by kernel_rfl) fun w38 hT39 hh40 => ?_
 have hT0 := hT0.t0 hT39
 have hL := hL.tch0 hT39
 have hP := hP.tch0 hT39
 have hM := hM.tch0 hT39
 have hB4 := hB4.tch0 hT39
 have hB10 := hB10.tch0 hT39
 have hB22 := hB22.tch0 hT39
 refine zK [0, 4, 7, 11, 1, 8, 2, 9] #[true, true, true, false, true, false, false, true, true, true, false, true, false, false, false, false, false] [(111, .pointer (some ⟨f, 0, none⟩)), (115, .pointer (some ⟨w.heap.size, 3, none⟩)), (118, .pointer (some ⟨f, 0, none⟩)), (122, .pointer (some ⟨w.heap.size, 3, none⟩)), (112, .pointer (some ⟨f, 0, none⟩)), (119, .pointer (some ⟨f, 0, none⟩)), (113, .pointer (some ⟨f, 1, none⟩)), (120, .pointer (some ⟨f, 0, none⟩))] ⟨hM, hP, hB4⟩ ?_
 refine zV 3 rfl (.map (some mb)) (fun _ ⟨hM, hP, hB4⟩ => R_load (v := .map (some mb)) (by kernel_rfl) (by kernel_rfl) ((hP.cell 1).trans rfl)) ⟨hM, hP, hB4⟩ ?_
 refine zV 5 rfl (.int .i64 ((b : Nat) : Int)) (fun _ ⟨hM, hP, hB4⟩ => R_load (v := .int .i64 ((b : Nat) : Int)) (by kernel_rfl) (by kernel_rfl) ((hB4.cell 3).trans rfl)) ⟨hM, hP, hB4⟩ ?_
 refine zV 6 rfl (kV (kg l b)) (fun _ ⟨hM, hP, hB4⟩ => R_lookSp l b (by kernel_rfl) (by kernel_rfl) (by kernel_rfl) hM (by omega) (by unfold b64; omega)) ⟨hM, hP, hB4⟩ ?_
 refine zV 10 rfl (.pointer (some ⟨p, 0, none⟩)) (fun _ ⟨hM, hP, hB4⟩ => R_load (v := .pointer (some ⟨p, 0, none⟩)) (by kernel_rfl) (by kernel_rfl) ((hP.cell 0).trans rfl)) ⟨hM, hP, hB4⟩ ?_
 refine zV 12 rfl (.int .i64 ((b : Nat) : Int)) (fun _ ⟨hM, hP, hB4⟩ => R_load (v := .int .i64 ((b : Nat) : Int)) (by kernel_rfl) (by kernel_rfl) ((hB4.cell 3).trans rfl)) ⟨hM, hP, hB4⟩ ?_
 refine d_two 13 14 (by kernel_rfl) (by rfl) (by rfl) (by kernel_rfl) (by kernel_rfl) ?_ ?_
 ·
  refine (S_call (args := [.pointer (some ⟨p, 0, none⟩), .int .i64 ((b : Nat) : Int)]) (by kernel_rfl) ((by have q := width_ok F p most N W ((b : Nat) : Int) _ hL hN; rw [hwb] at q; exact q)) ?_)
  rintro _ w41 ⟨rfl, hT42⟩
  have hT0 := hT0.t0 hT42
  have hL := hL.tch0 hT42
  have hP := hP.tch0 hT42
  have hM := hM.tch0 hT42
  have hB4 := hB4.tch0 hT42
  have hB10 := hB10.tch0 hT42
  have hB22 := hB22.tch0 hT42
  refine ⟨⟨hM, hP, hB4⟩, ?_⟩
  have hlt_ := hL.lt
  have lt47 := hP.lt
  have lt48 := hB4.lt
  have lt49 := hB10.lt
  have lt50 := hB22.lt
  have z51 := hT0.size
  have l52 := hP.lt
  have l53 := hB4.lt
  have l54 := hB10.lt
  have l55 := hB22.lt
  refine zD 14 rfl (S_new (v := .pointer (some ⟨w41.heap.size, 0, none⟩)) (ob := .cells #[.int .u64 0, .int .u64 0] 113) (by kernel_rfl) fun w43 hT44 hs45 hB46 => ?_)
  replace hB46 : Blk w43 (w41.heap.size) 113 [.int .u64 0, .int .u64 0] := hB46
  have hT0 := hT0.t0 hT44
  have hL := hL.tch0 hT44
  have hP := hP.tch0 hT44
  have hM := hM.tch0 hT44
  have hB4 := hB4.tch0 hT44
  have hB10 := hB10.tch0 hT44
  have hB22 := hB22.tch0 hT44
  have nF_hB46 : ¬ F (w41.heap.size) := fun e => by have := hlt_ _ e; omega
  refine ⟨⟨hM, hP, hB4⟩, ?_⟩
  refine zD 15 rfl (S_storeA (b := w41.heap.size) (j := 0) (cs := [.int .u64 (((kg l b).1 : Nat) : Int), .int .u64 (((kg l b).2 : Nat) : Int)]) (by kernel_rfl) (by kernel_rfl) (by kernel_rfl) (by simp [oneV]) hB46 (by simp) fun w56 hT57 hs58 hB46' => ?_)
  have hT0 := (hT0).then hT57 (fun c e => by have : c = w41.heap.size := e; omega)
  have hL := hL.tchS hT57 (fun c e q => by cases e; exact nF_hB46 q)
  have hP := hP.tch hT57 (hP.ne hB46 (by decide))
  have hM := hM.tch hT57 (fun e => hM.ne hB46 e)
  have hB4 := hB4.tch hT57 (hB4.ne hB46 (by decide))
  have hB10 := hB10.tch hT57 (fun e => by have : w1.heap.size = w41.heap.size := e; omega)
  have hB22 := hB22.tch hT57 (fun e => by have : w16.heap.size = w41.heap.size := e; omega)
  replace hB46 : Blk w56 w41.heap.size 113 [.int .u64 (((kg l b).1 : Nat) : Int), .int .u64 (((kg l b).2 : Nat) : Int)] := hB46'
  refine ⟨⟨hM, hP, hB4⟩, ?_⟩
  refine zK [16] #[true, true, true, true, true, true, true, true, true, true, true, true, true, true, true, true, true] [(11, .int .i64 ((up : Nat) : Int))] ⟨hM, hP, hB4⟩ ?_
  refine d_done (by kernel_rfl) ?_
  refine W_seq ?_
  refine W_draw (fun w' => Blk w' (w16.heap.size) 113 [.int .u64 (((kg l a).1 : Nat) : Int), .int .u64 (((kg l a).2 : Nat) : Int)] ∧ Blk w' (w41.heap.size) 113 [.int .u64 (((kg l b).1 : Nat) : Int), .int .u64 (((kg l b).2 : Nat) : Int)]) (by kernel_rfl) (by kernel_rfl) (by kernel_rfl) fun w59 hT60 hh61 => ?_
  have hT0 := hT0.t0 hT60
  have hL := hL.tch0 hT60
  have hP := hP.tch0 hT60
  have hM := hM.tch0 hT60
  have hB4 := hB4.tch0 hT60
  have hB10 := hB10.tch0 hT60
  have hB22 := hB22.tch0 hT60
  have hB46 := hB46.tch0 hT60
  refine zK [0, 2, 4, 7, 9, 11] #[true, false, true, false, true, false, false, true, false, true, false, true, false, false, false, false] [(125, .pointer (some ⟨w16.heap.size, 0, none⟩)), (127, .int .i64 ((up : Nat) : Int)), (129, .pointer (some ⟨w41.heap.size, 0, none⟩)), (132, .pointer (some ⟨w16.heap.size, 1, none⟩)), (134, .int .i64 ((up : Nat) : Int)), (136, .pointer (some ⟨w41.heap.size, 1, none⟩))] ⟨hB22, hB46⟩ ?_
  refine zV 1 rfl (.int .u64 (((kg l a).1 : Nat) : Int)) (fun _ ⟨hB22, hB46⟩ => R_load (v := .int .u64 (((kg l a).1 : Nat) : Int)) (by kernel_rfl) (by kernel_rfl) ((hB22.cell 0).trans rfl)) ⟨hB22, hB46⟩ ?_
  refine zV 3 rfl (.int .u64 ((((kg l a).1) * pw up % 18446744073709551616 : Nat) : Int)) (fun _ ⟨hB22, hB46⟩ => R_shlP (k2 := .i64) ((kg l a).1) up (by kernel_rfl) (by kernel_rfl) (by omega)) ⟨hB22, hB46⟩ ?_
  have hu62 : ((kg l a).1) * pw up % 18446744073709551616 < 18446744073709551616 := mod_lt64 _
  refine zV 5 rfl (.int .u64 (((kg l b).1 : Nat) : Int)) (fun _ ⟨hB22, hB46⟩ => R_load (v := .int .u64 (((kg l b).1 : Nat) : Int)) (by kernel_rfl) (by kernel_rfl) ((hB46.cell 0).trans rfl)) ⟨hB22, hB46⟩ ?_
  refine zK [6] #[true, true, true, true, true, true, true, true, false, true, false, true, false, false, false, false] [(131, .int .u64 (IntKind.u64.wrap (BitVec.ofInt 64 ((((kg l a).1) * pw up % 18446744073709551616 : Nat) : Int) ||| BitVec.ofInt 64 (((kg l b).1 : Nat) : Int)).toNat))] ⟨hB22, hB46⟩ ?_
  rw [show IntKind.u64.wrap (BitVec.ofInt 64 ((((kg l a).1) * pw up % 18446744073709551616 : Nat) : Int) ||| BitVec.ofInt 64 (((kg l b).1 : Nat) : Int)).toNat = (((((kg l a).1) * pw up % 18446744073709551616) ||| ((kg l b).1) : Nat) : Int) from or_u (((kg l a).1) * pw up % 18446744073709551616) ((kg l b).1) hu62 ub1]
  have hu63 : (((kg l a).1) * pw up % 18446744073709551616) ||| ((kg l b).1) < 18446744073709551616 := or_lt hu62 ub1
  refine zV 8 rfl (.int .u64 (((kg l a).2 : Nat) : Int)) (fun _ ⟨hB22, hB46⟩ => R_load (v := .int .u64 (((kg l a).2 : Nat) : Int)) (by kernel_rfl) (by kernel_rfl) ((hB22.cell 1).trans rfl)) ⟨hB22, hB46⟩ ?_
  refine zV 10 rfl (.int .u64 ((((kg l a).2) * pw up % 18446744073709551616 : Nat) : Int)) (fun _ ⟨hB22, hB46⟩ => R_shlP (k2 := .i64) ((kg l a).2) up (by kernel_rfl) (by kernel_rfl) (by omega)) ⟨hB22, hB46⟩ ?_
  have hu64 : ((kg l a).2) * pw up % 18446744073709551616 < 18446744073709551616 := mod_lt64 _
  refine zV 12 rfl (.int .u64 (((kg l b).2 : Nat) : Int)) (fun _ ⟨hB22, hB46⟩ => R_load (v := .int .u64 (((kg l b).2 : Nat) : Int)) (by kernel_rfl) (by kernel_rfl) ((hB46.cell 1).trans rfl)) ⟨hB22, hB46⟩ ?_
  refine zK [13] #[true, true, true, true, true, true, true, true, true, true, true, true, true, true, false, false] [(138, .int .u64 (IntKind.u64.wrap (BitVec.ofInt 64 ((((kg l a).2) * pw up % 18446744073709551616 : Nat) : Int) ||| BitVec.ofInt 64 (((kg l b).2 : Nat) : Int)).toNat))] ⟨hB22, hB46⟩ ?_
  rw [show IntKind.u64.wrap (BitVec.ofInt 64 ((((kg l a).2) * pw up % 18446744073709551616 : Nat) : Int) ||| BitVec.ofInt 64 (((kg l b).2 : Nat) : Int)).toNat = (((((kg l a).2) * pw up % 18446744073709551616) ||| ((kg l b).2) : Nat) : Int) from or_u (((kg l a).2) * pw up % 18446744073709551616) ((kg l b).2) hu64 ub2]
  have hu65 : (((kg l a).2) * pw up % 18446744073709551616) ||| ((kg l b).2) < 18446744073709551616 := or_lt hu64 ub2
  refine zK [14] #[true, true, true, true, true, true, true, true, true, true, true, true, true, true, true, false] [(139, .agg #[.int .u64 (((((kg l a).1) * pw up % 18446744073709551616) ||| ((kg l b).1) : Nat) : Int), .int .u64 (((((kg l a).2) * pw up % 18446744073709551616) ||| ((kg l b).2) : Nat) : Int)])] ⟨hB22, hB46⟩ ?_
  refine zD 15 rfl (S_storeA (b := w1.heap.size) (j := 0) (cs := [.int .u64 (((((kg l a).1) * pw up % 18446744073709551616) ||| ((kg l b).1) : Nat) : Int), .int .u64 (((((kg l a).2) * pw up % 18446744073709551616) ||| ((kg l b).2) : Nat) : Int)]) (by kernel_rfl) (by kernel_rfl) (by kernel_rfl) (by simp [oneV]) hB10 (by simp) fun w66 hT67 hs68 hB10' => ?_)
  have hT0 := (hT0).then hT67 (fun c e => by have : c = w1.heap.size := e; omega)
  have hL := hL.tchS hT67 (fun c e q => by cases e; exact nF_hB10 q)
  have hP := hP.tch hT67 (hP.ne hB10 (by decide))
  have hM := hM.tch hT67 (fun e => hM.ne hB10 e)
  have hB4 := hB4.tch hT67 (hB4.ne hB10 (by decide))
  have hB22 := hB22.tch hT67 (fun e => by have : w16.heap.size = w1.heap.size := e; omega)
  have hB46 := hB46.tch hT67 (fun e => by have : w41.heap.size = w1.heap.size := e; omega)
  replace hB10 : Blk w66 w1.heap.size 113 [.int .u64 (((((kg l a).1) * pw up % 18446744073709551616) ||| ((kg l b).1) : Nat) : Int), .int .u64 (((((kg l a).2) * pw up % 18446744073709551616) ||| ((kg l b).2) : Nat) : Int)] := hB10'
  refine ⟨⟨hB22, hB46⟩, ?_⟩
  refine d_done (by kernel_rfl) ?_
  refine W_ret ?_
  exact ⟨_, Res_cell (b := w1.heap.size) (cs := [.int .u64 (((((kg l a).1) * pw up % 18446744073709551616) ||| ((kg l b).1) : Nat) : Int), .int .u64 (((((kg l a).2) * pw up % 18446744073709551616) ||| ((kg l b).2) : Nat) : Int)]) (by rfl) (by kernel_rfl) (by kernel_rfl) hB10 (by kernel_rfl) (by kernel_rfl), ⟨by kernel_rfl, hT0⟩⟩
 ·
  have hlt_ := hL.lt
  have lt73 := hP.lt
  have lt74 := hB4.lt
  have lt75 := hB10.lt
  have lt76 := hB22.lt
  have z77 := hT0.size
  have l78 := hP.lt
  have l79 := hB4.lt
  have l80 := hB10.lt
  have l81 := hB22.lt
  refine (S_new (v := .pointer (some ⟨w38.heap.size, 0, none⟩)) (ob := .cells #[.int .u64 0, .int .u64 0] 113) (by kernel_rfl) fun w69 hT70 hs71 hB72 => ?_)
  replace hB72 : Blk w69 (w38.heap.size) 113 [.int .u64 0, .int .u64 0] := hB72
  have hT0 := hT0.t0 hT70
  have hL := hL.tch0 hT70
  have hP := hP.tch0 hT70
  have hM := hM.tch0 hT70
  have hB4 := hB4.tch0 hT70
  have hB10 := hB10.tch0 hT70
  have hB22 := hB22.tch0 hT70
  have nF_hB72 : ¬ F (w38.heap.size) := fun e => by have := hlt_ _ e; omega
  refine ⟨⟨hM, hP, hB4⟩, ?_⟩
  refine zD 13 rfl (S_call (args := [.pointer (some ⟨p, 0, none⟩), .int .i64 ((b : Nat) : Int)]) (by kernel_rfl) ((by have q := width_ok F p most N W ((b : Nat) : Int) _ hL hN; rw [hwb] at q; exact q)) ?_)
  rintro _ w82 ⟨rfl, hT83⟩
  have hT0 := hT0.t0 hT83
  have hL := hL.tch0 hT83
  have hP := hP.tch0 hT83
  have hM := hM.tch0 hT83
  have hB4 := hB4.tch0 hT83
  have hB10 := hB10.tch0 hT83
  have hB22 := hB22.tch0 hT83
  have hB72 := hB72.tch0 hT83
  refine ⟨⟨hM, hP, hB4⟩, ?_⟩
  refine zD 15 rfl (S_storeA (b := w38.heap.size) (j := 0) (cs := [.int .u64 (((kg l b).1 : Nat) : Int), .int .u64 (((kg l b).2 : Nat) : Int)]) (by kernel_rfl) (by kernel_rfl) (by kernel_rfl) (by simp [oneV]) hB72 (by simp) fun w84 hT85 hs86 hB72' => ?_)
  have hT0 := (hT0).then hT85 (fun c e => by have : c = w38.heap.size := e; omega)
  have hL := hL.tchS hT85 (fun c e q => by cases e; exact nF_hB72 q)
  have hP := hP.tch hT85 (hP.ne hB72 (by decide))
  have hM := hM.tch hT85 (fun e => hM.ne hB72 e)
  have hB4 := hB4.tch hT85 (hB4.ne hB72 (by decide))
  have hB10 := hB10.tch hT85 (fun e => by have : w1.heap.size = w38.heap.size := e; omega)
  have hB22 := hB22.tch hT85 (fun e => by have : w16.heap.size = w38.heap.size := e; omega)
  replace hB72 : Blk w84 w38.heap.size 113 [.int .u64 (((kg l b).1 : Nat) : Int), .int .u64 (((kg l b).2 : Nat) : Int)] := hB72'
  refine ⟨⟨hM, hP, hB4⟩, ?_⟩
  refine zK [16] #[true, true, true, true, true, true, true, true, true, true, true, true, true, true, true, true, true] [(11, .int .i64 ((up : Nat) : Int))] ⟨hM, hP, hB4⟩ ?_
  refine d_done (by kernel_rfl) ?_
  refine W_seq ?_
  refine W_draw (fun w' => Blk w' (w16.heap.size) 113 [.int .u64 (((kg l a).1 : Nat) : Int), .int .u64 (((kg l a).2 : Nat) : Int)] ∧ Blk w' (w38.heap.size) 113 [.int .u64 (((kg l b).1 : Nat) : Int), .int .u64 (((kg l b).2 : Nat) : Int)]) (by kernel_rfl) (by kernel_rfl) (by kernel_rfl) fun w87 hT88 hh89 => ?_
  have hT0 := hT0.t0 hT88
  have hL := hL.tch0 hT88
  have hP := hP.tch0 hT88
  have hM := hM.tch0 hT88
  have hB4 := hB4.tch0 hT88
  have hB10 := hB10.tch0 hT88
  have hB22 := hB22.tch0 hT88
  have hB72 := hB72.tch0 hT88
  refine zK [0, 2, 4, 7, 9, 11] #[true, false, true, false, true, false, false, true, false, true, false, true, false, false, false, false] [(125, .pointer (some ⟨w16.heap.size, 0, none⟩)), (127, .int .i64 ((up : Nat) : Int)), (129, .pointer (some ⟨w38.heap.size, 0, none⟩)), (132, .pointer (some ⟨w16.heap.size, 1, none⟩)), (134, .int .i64 ((up : Nat) : Int)), (136, .pointer (some ⟨w38.heap.size, 1, none⟩))] ⟨hB22, hB72⟩ ?_
  refine zV 1 rfl (.int .u64 (((kg l a).1 : Nat) : Int)) (fun _ ⟨hB22, hB72⟩ => R_load (v := .int .u64 (((kg l a).1 : Nat) : Int)) (by kernel_rfl) (by kernel_rfl) ((hB22.cell 0).trans rfl)) ⟨hB22, hB72⟩ ?_
  refine zV 3 rfl (.int .u64 ((((kg l a).1) * pw up % 18446744073709551616 : Nat) : Int)) (fun _ ⟨hB22, hB72⟩ => R_shlP (k2 := .i64) ((kg l a).1) up (by kernel_rfl) (by kernel_rfl) (by omega)) ⟨hB22, hB72⟩ ?_
  have hu90 : ((kg l a).1) * pw up % 18446744073709551616 < 18446744073709551616 := mod_lt64 _
  refine zV 5 rfl (.int .u64 (((kg l b).1 : Nat) : Int)) (fun _ ⟨hB22, hB72⟩ => R_load (v := .int .u64 (((kg l b).1 : Nat) : Int)) (by kernel_rfl) (by kernel_rfl) ((hB72.cell 0).trans rfl)) ⟨hB22, hB72⟩ ?_
  refine zK [6] #[true, true, true, true, true, true, true, true, false, true, false, true, false, false, false, false] [(131, .int .u64 (IntKind.u64.wrap (BitVec.ofInt 64 ((((kg l a).1) * pw up % 18446744073709551616 : Nat) : Int) ||| BitVec.ofInt 64 (((kg l b).1 : Nat) : Int)).toNat))] ⟨hB22, hB72⟩ ?_
  rw [show IntKind.u64.wrap (BitVec.ofInt 64 ((((kg l a).1) * pw up % 18446744073709551616 : Nat) : Int) ||| BitVec.ofInt 64 (((kg l b).1 : Nat) : Int)).toNat = (((((kg l a).1) * pw up % 18446744073709551616) ||| ((kg l b).1) : Nat) : Int) from or_u (((kg l a).1) * pw up % 18446744073709551616) ((kg l b).1) hu90 ub1]
  have hu91 : (((kg l a).1) * pw up % 18446744073709551616) ||| ((kg l b).1) < 18446744073709551616 := or_lt hu90 ub1
  refine zV 8 rfl (.int .u64 (((kg l a).2 : Nat) : Int)) (fun _ ⟨hB22, hB72⟩ => R_load (v := .int .u64 (((kg l a).2 : Nat) : Int)) (by kernel_rfl) (by kernel_rfl) ((hB22.cell 1).trans rfl)) ⟨hB22, hB72⟩ ?_
  refine zV 10 rfl (.int .u64 ((((kg l a).2) * pw up % 18446744073709551616 : Nat) : Int)) (fun _ ⟨hB22, hB72⟩ => R_shlP (k2 := .i64) ((kg l a).2) up (by kernel_rfl) (by kernel_rfl) (by omega)) ⟨hB22, hB72⟩ ?_
  have hu92 : ((kg l a).2) * pw up % 18446744073709551616 < 18446744073709551616 := mod_lt64 _
  refine zV 12 rfl (.int .u64 (((kg l b).2 : Nat) : Int)) (fun _ ⟨hB22, hB72⟩ => R_load (v := .int .u64 (((kg l b).2 : Nat) : Int)) (by kernel_rfl) (by kernel_rfl) ((hB72.cell 1).trans rfl)) ⟨hB22, hB72⟩ ?_
  refine zK [13] #[true, true, true, true, true, true, true, true, true, true, true, true, true, true, false, false] [(138, .int .u64 (IntKind.u64.wrap (BitVec.ofInt 64 ((((kg l a).2) * pw up % 18446744073709551616 : Nat) : Int) ||| BitVec.ofInt 64 (((kg l b).2 : Nat) : Int)).toNat))] ⟨hB22, hB72⟩ ?_
  rw [show IntKind.u64.wrap (BitVec.ofInt 64 ((((kg l a).2) * pw up % 18446744073709551616 : Nat) : Int) ||| BitVec.ofInt 64 (((kg l b).2 : Nat) : Int)).toNat = (((((kg l a).2) * pw up % 18446744073709551616) ||| ((kg l b).2) : Nat) : Int) from or_u (((kg l a).2) * pw up % 18446744073709551616) ((kg l b).2) hu92 ub2]
  have hu93 : (((kg l a).2) * pw up % 18446744073709551616) ||| ((kg l b).2) < 18446744073709551616 := or_lt hu92 ub2
  refine zK [14] #[true, true, true, true, true, true, true, true, true, true, true, true, true, true, true, false] [(139, .agg #[.int .u64 (((((kg l a).1) * pw up % 18446744073709551616) ||| ((kg l b).1) : Nat) : Int), .int .u64 (((((kg l a).2) * pw up % 18446744073709551616) ||| ((kg l b).2) : Nat) : Int)])] ⟨hB22, hB72⟩ ?_
  refine zD 15 rfl (S_storeA (b := w1.heap.size) (j := 0) (cs := [.int .u64 (((((kg l a).1) * pw up % 18446744073709551616) ||| ((kg l b).1) : Nat) : Int), .int .u64 (((((kg l a).2) * pw up % 18446744073709551616) ||| ((kg l b).2) : Nat) : Int)]) (by kernel_rfl) (by kernel_rfl) (by kernel_rfl) (by simp [oneV]) hB10 (by simp) fun w94 hT95 hs96 hB10' => ?_)
  have hT0 := (hT0).then hT95 (fun c e => by have : c = w1.heap.size := e; omega)
  have hL := hL.tchS hT95 (fun c e q => by cases e; exact nF_hB10 q)
  have hP := hP.tch hT95 (hP.ne hB10 (by decide))
  have hM := hM.tch hT95 (fun e => hM.ne hB10 e)
  have hB4 := hB4.tch hT95 (hB4.ne hB10 (by decide))
  have hB22 := hB22.tch hT95 (fun e => by have : w16.heap.size = w1.heap.size := e; omega)
  have hB72 := hB72.tch hT95 (fun e => by have : w38.heap.size = w1.heap.size := e; omega)
  replace hB10 : Blk w94 w1.heap.size 113 [.int .u64 (((((kg l a).1) * pw up % 18446744073709551616) ||| ((kg l b).1) : Nat) : Int), .int .u64 (((((kg l a).2) * pw up % 18446744073709551616) ||| ((kg l b).2) : Nat) : Int)] := hB10'
  refine ⟨⟨hB22, hB72⟩, ?_⟩
  refine d_done (by kernel_rfl) ?_
  refine W_ret ?_
  exact ⟨_, Res_cell (b := w1.heap.size) (cs := [.int .u64 (((((kg l a).1) * pw up % 18446744073709551616) ||| ((kg l b).1) : Nat) : Int), .int .u64 (((((kg l a).2) * pw up % 18446744073709551616) ||| ((kg l b).2) : Nat) : Int)]) (by rfl) (by kernel_rfl) (by kernel_rfl) hB10 (by kernel_rfl) (by kernel_rfl), ⟨by kernel_rfl, hT0⟩⟩

set_option maxRecDepth 100000 in
theorem sp25_ok (F : Nat → Prop) (p : Nat) (most : Int) (N : List Nd) (W : Value → Value → Prop) (f k mb : Nat) (l : List K) (nw wd up a : Nat) (xb xc xv : Int) (y z : K) (lo V : Nat) (w : World) (hL : TLow F w p most N W) (hN : N.length ≤ 65536) (hP : Blk w f 111 [.pointer (some ⟨p, 0, none⟩), .map (some mb)]) (hM : MapE Try.prog 3 w mb (spR l)) (hlk : l.length = k) (hk6 : k ≤ 65536) (ha : a < k) (hwa : widF N ((a : Nat) : Int) = ((wd : Nat) : Int)) (hxa : RI wd (kg l a)) (hw : wd ≤ 64) : Ret Try.prog 54 [.pointer (some ⟨f, 0, none⟩), .agg #[.int .i64 25, .int .i64 ((nw : Nat) : Int), .int .i64 ((a : Nat) : Int), .int .i64 xb, .int .i64 xc, .int .u64 xv]] w fun v w' => v = .agg #[.int .u64 (((rone 25 nw wd up (kg l a) y z lo V).1 : Nat) : Int), .int .u64 (((rone 25 nw wd up (kg l a) y z lo V).2 : Nat) : Int)] ∧ Tch N0 w w' := by
 have hMl := hM.lt
 have hla1 := hxa.1
 have hla2 := hxa.2
 have ua1 := hxa.u1 (show wd ≤ 64 by omega)
 have ua2 := hxa.u2 (show wd ≤ 64 by omega)
 refine enter Try.func54 rfl rfl ?_
 refine zQ ?_
 have hlt_ := hL.lt
 have lt5 := hP.lt
 have l6 := hP.lt
 refine st (by rfl) (S_new (v := .pointer (some ⟨w.heap.size, 0, none⟩)) (ob := .cells #[.int .i64 25, .int .i64 ((nw : Nat) : Int), .int .i64 ((a : Nat) : Int), .int .i64 xb, .int .i64 xc, .int .u64 xv] 32) (by kernel_rfl) fun w1 hT2 hs3 hB4 => ?_)
 replace hB4 : Blk w1 (w.heap.size) 32 [.int .i64 25, .int .i64 ((nw : Nat) : Int), .int .i64 ((a : Nat) : Int), .int .i64 xb, .int .i64 xc, .int .u64 xv] := hB4
 have hT0 := hT2
 have hL := hL.tch0 hT2
 have hP := hP.tch0 hT2
 have hM := hM.tch0 hT2
 have nF_hB4 : ¬ F (w.heap.size) := fun e => by have := hlt_ _ e; omega
 have hlt_ := hL.lt
 have lt11 := hP.lt
 have lt12 := hB4.lt
 have z13 := hT0.size
 have l14 := hP.lt
 have l15 := hB4.lt
 refine st (by rfl) (S_new (v := .pointer (some ⟨w1.heap.size, 0, none⟩)) (ob := .cells #[.int .u64 0, .int .u64 0] 113) (by kernel_rfl) fun w7 hT8 hs9 hB10 => ?_)
 replace hB10 : Blk w7 (w1.heap.size) 113 [.int .u64 0, .int .u64 0] := hB10
 have hT0 := hT0.t0 hT8
 have hL := hL.tch0 hT8
 have hP := hP.tch0 hT8
 have hM := hM.tch0 hT8
 have hB4 := hB4.tch0 hT8
 have nF_hB10 : ¬ F (w1.heap.size) := fun e => by have := hlt_ _ e; omega
 refine op_nil ?_
 refine W_seq ?_
 refine W_draw (fun w' => MapE Try.prog 3 w' mb (spR l) ∧ Blk w' (f) 111 [.pointer (some ⟨p, 0, none⟩), .map (some mb)] ∧ Blk w' (w.heap.size) 32 [.int .i64 25, .int .i64 ((nw : Nat) : Int), .int .i64 ((a : Nat) : Int), .int .i64 xb, .int .i64 xc, .int .u64 xv]) (by kernel_rfl) (by kernel_rfl) (by kernel_rfl) fun w16 hT17 hh18 => ?_
 have hT0 := hT0.t0 hT17
 have hL := hL.tch0 hT17
 have hP := hP.tch0 hT17
 have hM := hM.tch0 hT17
 have hB4 := hB4.tch0 hT17
 have hB10 := hB10.tch0 hT17
 refine zK [0, 4, 1, 2] #[true, true, true, false, true, false, false, false, false] [(12, .pointer (some ⟨f, 0, none⟩)), (16, .pointer (some ⟨w.heap.size, 2, none⟩)), (13, .pointer (some ⟨f, 0, none⟩)), (14, .pointer (some ⟨f, 1, none⟩))] ⟨hM, hP, hB4⟩ ?_
 refine zV 3 rfl (.map (some mb)) (fun _ ⟨hM, hP, hB4⟩ => R_load (v := .map (some mb)) (by kernel_rfl) (by kernel_rfl) ((hP.cell 1).trans rfl)) ⟨hM, hP, hB4⟩ ?_
 refine zV 5 rfl (.int .i64 ((a : Nat) : Int)) (fun _ ⟨hM, hP, hB4⟩ => R_load (v := .int .i64 ((a : Nat) : Int)) (by kernel_rfl) (by kernel_rfl) ((hB4.cell 2).trans rfl)) ⟨hM, hP, hB4⟩ ?_
 refine zV 6 rfl (kV (kg l a)) (fun _ ⟨hM, hP, hB4⟩ => R_lookSp l a (by kernel_rfl) (by kernel_rfl) (by kernel_rfl) hM (by omega) (by unfold b64; omega)) ⟨hM, hP, hB4⟩ ?_
 have hlt_ := hL.lt
 have lt23 := hP.lt
 have lt24 := hB4.lt
 have lt25 := hB10.lt
 have z26 := hT0.size
 have l27 := hP.lt
 have l28 := hB4.lt
 have l29 := hB10.lt
 refine zD 7 rfl (S_new (v := .pointer (some ⟨w16.heap.size, 0, none⟩)) (ob := .cells #[.int .u64 0, .int .u64 0] 113) (by kernel_rfl) fun w19 hT20 hs21 hB22 => ?_)
 replace hB22 : Blk w19 (w16.heap.size) 113 [.int .u64 0, .int .u64 0] := hB22
 have hT0 := hT0.t0 hT20
 have hL := hL.tch0 hT20
 have hP := hP.tch0 hT20
 have hM := hM.tch0 hT20
 have hB4 := hB4.tch0 hT20
 have hB10 := hB10.tch0 hT20
 have nF_hB22 : ¬ F (w16.heap.size) := fun e => by have := hlt_ _ e; omega
 refine ⟨⟨hM, hP, hB4⟩, ?_⟩
 refine zD 8 rfl (S_storeA (b := w16.heap.size) (j := 0) (cs := [.int .u64 (((kg l a).1 : Nat) : Int), .int .u64 (((kg l a).2 : Nat) : Int)]) (by kernel_rfl) (by kernel_rfl) (by kernel_rfl) (by simp [oneV]) hB22 (by simp) fun w30 hT31 hs32 hB22' => ?_)
 have hT0 := (hT0).then hT31 (fun c e => by have : c = w16.heap.size := e; omega)
 have hL := hL.tchS hT31 (fun c e q => by cases e; exact nF_hB22 q)
 have hP := hP.tch hT31 (hP.ne hB22 (by decide))
 have hM := hM.tch hT31 (fun e => hM.ne hB22 e)
 have hB4 := hB4.tch hT31 (hB4.ne hB22 (by decide))
 have hB10 := hB10.tch hT31 (fun e => by have : w1.heap.size = w16.heap.size := e; omega)
 replace hB22 : Blk w30 w16.heap.size 113 [.int .u64 (((kg l a).1 : Nat) : Int), .int .u64 (((kg l a).2 : Nat) : Int)] := hB22'
 refine ⟨⟨hM, hP, hB4⟩, ?_⟩
 refine d_done (by kernel_rfl) ?_
 refine W_seq ?_
 refine W_draw (fun w' => MapE Try.prog 3 w' mb (spR l) ∧ Blk w' (f) 111 [.pointer (some ⟨p, 0, none⟩), .map (some mb)] ∧ Blk w' (w.heap.size) 32 [.int .i64 25, .int .i64 ((nw : Nat) : Int), .int .i64 ((a : Nat) : Int), .int .i64 xb, .int .i64 xc, .int .u64 xv]) (by kernel_rfl) (by kernel_rfl) (by kernel_rfl) fun w33 hT34 hh35 => ?_
 have hT0 := hT0.t0 hT34
 have hL := hL.tch0 hT34
 have hP := hP.tch0 hT34
 have hM := hM.tch0 hT34
 have hB4 := hB4.tch0 hT34
 have hB10 := hB10.tch0 hT34
 have hB22 := hB22.tch0 hT34
 refine zK [0, 4, 1, 2] #[true, true, true, false, true, false, false, false] [(19, .pointer (some ⟨f, 0, none⟩)), (23, .pointer (some ⟨w.heap.size, 2, none⟩)), (20, .pointer (some ⟨f, 0, none⟩)), (21, .pointer (some ⟨f, 0, none⟩))] ⟨hM, hP, hB4⟩ ?_
 refine zV 3 rfl (.pointer (some ⟨p, 0, none⟩)) (fun _ ⟨hM, hP, hB4⟩ => R_load (v := .pointer (some ⟨p, 0, none⟩)) (by kernel_rfl) (by kernel_rfl) ((hP.cell 0).trans rfl)) ⟨hM, hP, hB4⟩ ?_
 refine zV 5 rfl (.int .i64 ((a : Nat) : Int)) (fun _ ⟨hM, hP, hB4⟩ => R_load (v := .int .i64 ((a : Nat) : Int)) (by kernel_rfl) (by kernel_rfl) ((hB4.cell 2).trans rfl)) ⟨hM, hP, hB4⟩ ?_
 refine zD 6 rfl (S_call (args := [.pointer (some ⟨p, 0, none⟩), .int .i64 ((a : Nat) : Int)]) (by kernel_rfl) ((by have q := width_ok F p most N W ((a : Nat) : Int) _ hL hN; rw [hwa] at q; exact q)) ?_)
 rintro _ w36 ⟨rfl, hT37⟩
 have hT0 := hT0.t0 hT37
 have hL := hL.tch0 hT37
 have hP := hP.tch0 hT37
 have hM := hM.tch0 hT37
 have hB4 := hB4.tch0 hT37
 have hB10 := hB10.tch0 hT37
 have hB22 := hB22.tch0 hT37
 refine ⟨⟨hM, hP, hB4⟩, ?_⟩
 refine zK [7] #[true, true, true, true, true, true, true, true] [(6, .int .i64 ((wd : Nat) : Int))] ⟨hM, hP, hB4⟩ ?_
 refine d_done (by kernel_rfl) ?_
 refine W_seq ?_
 refine zQ ?_
 refine zS [(26, .pointer (some ⟨w.heap.size, 0, none⟩))] ?_
 refine zL (.int .i64 25) ((hB4.cell 0).trans rfl) ?_
 refine op_nil ?_
 refine W_block ?_
 refine zQ ?_
 refine zS [(29, .bool false), (28, .bool false)] ?_
 refine zO false (fun h => nomatch h) (fun _ => ?_)
 refine W_seq ?_
 refine zQ ?_
 refine zS [(36, .bool false), (35, .bool false)] ?_
 refine zO false (fun h => nomatch h) (fun _ => ?_)
 refine zR ?_
 refine zS [(37, .bool false), (35, .bool false)] ?_
 refine zO false (fun h => nomatch h) (fun _ => ?_)
 refine zQ ?_
 refine zS [(42, .bool false), (41, .bool false)] ?_
 refine zO false (fun h => nomatch h) (fun _ => ?_)
 refine zQ ?_
 refine zS [(56, .bool false), (55, .bool false)] ?_
 refine zO false (fun h => nomatch h) (fun _ => ?_)
 refine zQ ?_
 refine zS [(93, .bool false), (92, .bool false)] ?_
 refine zO false (fun h => nomatch h) (fun _ => ?_)
 refine zQ ?_
 refine zS [(110, .bool false), (109, .bool false)] ?_
 refine zO false (fun h => nomatch h) (fun _ => ?_)
 refine zQ ?_
 refine zS [(141, .bool false), (140, .bool false)] ?_
 refine zO false (fun h => nomatch h) (fun _ => ?_)
 refine zQ ?_
 refine zS [(154, .bool true), (153, .bool true)] ?_
 refine zO true (fun _ => ?_) (fun h => nomatch h)
 refine zQ ?_
 refine st (by rfl) (S_val (v := .agg #[.int .u64 (((kg l a).1 : Nat) : Int), .int .u64 (((kg l a).2 : Nat) : Int)]) (R_loadA [.int .u64 (((kg l a).1 : Nat) : Int), .int .u64 (((kg l a).2 : Nat) : Int)] (by kernel_rfl) (by kernel_rfl) (by kernel_rfl) (fun k u hk => by rw [hB22.cell]; exact get_part _ 0 _ k u rfl hk)) ?_)
 refine st (by rfl) (S_storeA (b := w1.heap.size) (j := 0) (cs := [.int .u64 (((kg l a).1 : Nat) : Int), .int .u64 (((kg l a).2 : Nat) : Int)]) (by kernel_rfl) (by kernel_rfl) (by kernel_rfl) (by simp [oneV]) hB10 (by simp) fun w38 hT39 hs40 hB10' => ?_)
 have hT0 := (hT0).then hT39 (fun c e => by have : c = w1.heap.size := e; omega)
 have hL := hL.tchS hT39 (fun c e q => by cases e; exact nF_hB10 q)
 have hP := hP.tch hT39 (hP.ne hB10 (by decide))
 have hM := hM.tch hT39 (fun e => hM.ne hB10 e)
 have hB4 := hB4.tch hT39 (hB4.ne hB10 (by decide))
 have hB22 := hB22.tch hT39 (fun e => by have : w16.heap.size = w1.heap.size := e; omega)
 replace hB10 : Blk w38 w1.heap.size 113 [.int .u64 (((kg l a).1 : Nat) : Int), .int .u64 (((kg l a).2 : Nat) : Int)] := hB10'
 refine op_nil ?_
 refine W_ret ?_
 exact ⟨_, Res_cell (b := w1.heap.size) (cs := [.int .u64 (((kg l a).1 : Nat) : Int), .int .u64 (((kg l a).2 : Nat) : Int)]) (by rfl) (by kernel_rfl) (by kernel_rfl) hB10 (by kernel_rfl) (by kernel_rfl), ⟨by kernel_rfl, hT0⟩⟩

set_option maxRecDepth 100000 in
theorem sp26_ok (F : Nat → Prop) (p : Nat) (most : Int) (N : List Nd) (W : Value → Value → Prop) (f k mb : Nat) (l : List K) (nw wd up a : Nat) (xb xc xv : Int) (y z : K) (lo V : Nat) (w : World) (hL : TLow F w p most N W) (hN : N.length ≤ 65536) (hP : Blk w f 111 [.pointer (some ⟨p, 0, none⟩), .map (some mb)]) (hM : MapE Try.prog 3 w mb (spR l)) (hlk : l.length = k) (hk6 : k ≤ 65536) (ha : a < k) (hwa : widF N ((a : Nat) : Int) = ((wd : Nat) : Int)) (hxa : RI wd (kg l a)) (hw : wd ≤ 64) (h1 : 1 ≤ wd) (hnw : nw ≤ 64) : Ret Try.prog 54 [.pointer (some ⟨f, 0, none⟩), .agg #[.int .i64 26, .int .i64 ((nw : Nat) : Int), .int .i64 ((a : Nat) : Int), .int .i64 xb, .int .i64 xc, .int .u64 xv]] w fun v w' => v = .agg #[.int .u64 (((rone 26 nw wd up (kg l a) y z lo V).1 : Nat) : Int), .int .u64 (((rone 26 nw wd up (kg l a) y z lo V).2 : Nat) : Int)] ∧ Tch N0 w w' := by
 have hMl := hM.lt
 have hla1 := hxa.1
 have hla2 := hxa.2
 have ua1 := hxa.u1 (show wd ≤ 64 by omega)
 have ua2 := hxa.u2 (show wd ≤ 64 by omega)
 refine enter Try.func54 rfl rfl ?_
 refine zQ ?_
 have hlt_ := hL.lt
 have lt5 := hP.lt
 have l6 := hP.lt
 refine st (by rfl) (S_new (v := .pointer (some ⟨w.heap.size, 0, none⟩)) (ob := .cells #[.int .i64 26, .int .i64 ((nw : Nat) : Int), .int .i64 ((a : Nat) : Int), .int .i64 xb, .int .i64 xc, .int .u64 xv] 32) (by kernel_rfl) fun w1 hT2 hs3 hB4 => ?_)
 replace hB4 : Blk w1 (w.heap.size) 32 [.int .i64 26, .int .i64 ((nw : Nat) : Int), .int .i64 ((a : Nat) : Int), .int .i64 xb, .int .i64 xc, .int .u64 xv] := hB4
 have hT0 := hT2
 have hL := hL.tch0 hT2
 have hP := hP.tch0 hT2
 have hM := hM.tch0 hT2
 have nF_hB4 : ¬ F (w.heap.size) := fun e => by have := hlt_ _ e; omega
 have hlt_ := hL.lt
 have lt11 := hP.lt
 have lt12 := hB4.lt
 have z13 := hT0.size
 have l14 := hP.lt
 have l15 := hB4.lt
 refine st (by rfl) (S_new (v := .pointer (some ⟨w1.heap.size, 0, none⟩)) (ob := .cells #[.int .u64 0, .int .u64 0] 113) (by kernel_rfl) fun w7 hT8 hs9 hB10 => ?_)
 replace hB10 : Blk w7 (w1.heap.size) 113 [.int .u64 0, .int .u64 0] := hB10
 have hT0 := hT0.t0 hT8
 have hL := hL.tch0 hT8
 have hP := hP.tch0 hT8
 have hM := hM.tch0 hT8
 have hB4 := hB4.tch0 hT8
 have nF_hB10 : ¬ F (w1.heap.size) := fun e => by have := hlt_ _ e; omega
 refine op_nil ?_
 refine W_seq ?_
 refine W_draw (fun w' => MapE Try.prog 3 w' mb (spR l) ∧ Blk w' (f) 111 [.pointer (some ⟨p, 0, none⟩), .map (some mb)] ∧ Blk w' (w.heap.size) 32 [.int .i64 26, .int .i64 ((nw : Nat) : Int), .int .i64 ((a : Nat) : Int), .int .i64 xb, .int .i64 xc, .int .u64 xv]) (by kernel_rfl) (by kernel_rfl) (by kernel_rfl) fun w16 hT17 hh18 => ?_
 have hT0 := hT0.t0 hT17
 have hL := hL.tch0 hT17
 have hP := hP.tch0 hT17
 have hM := hM.tch0 hT17
 have hB4 := hB4.tch0 hT17
 have hB10 := hB10.tch0 hT17
 refine zK [0, 4, 1, 2] #[true, true, true, false, true, false, false, false, false] [(12, .pointer (some ⟨f, 0, none⟩)), (16, .pointer (some ⟨w.heap.size, 2, none⟩)), (13, .pointer (some ⟨f, 0, none⟩)), (14, .pointer (some ⟨f, 1, none⟩))] ⟨hM, hP, hB4⟩ ?_
 refine zV 3 rfl (.map (some mb)) (fun _ ⟨hM, hP, hB4⟩ => R_load (v := .map (some mb)) (by kernel_rfl) (by kernel_rfl) ((hP.cell 1).trans rfl)) ⟨hM, hP, hB4⟩ ?_
 refine zV 5 rfl (.int .i64 ((a : Nat) : Int)) (fun _ ⟨hM, hP, hB4⟩ => R_load (v := .int .i64 ((a : Nat) : Int)) (by kernel_rfl) (by kernel_rfl) ((hB4.cell 2).trans rfl)) ⟨hM, hP, hB4⟩ ?_
 refine zV 6 rfl (kV (kg l a)) (fun _ ⟨hM, hP, hB4⟩ => R_lookSp l a (by kernel_rfl) (by kernel_rfl) (by kernel_rfl) hM (by omega) (by unfold b64; omega)) ⟨hM, hP, hB4⟩ ?_
 have hlt_ := hL.lt
 have lt23 := hP.lt
 have lt24 := hB4.lt
 have lt25 := hB10.lt
 have z26 := hT0.size
 have l27 := hP.lt
 have l28 := hB4.lt
 have l29 := hB10.lt
 refine zD 7 rfl (S_new (v := .pointer (some ⟨w16.heap.size, 0, none⟩)) (ob := .cells #[.int .u64 0, .int .u64 0] 113) (by kernel_rfl) fun w19 hT20 hs21 hB22 => ?_)
 replace hB22 : Blk w19 (w16.heap.size) 113 [.int .u64 0, .int .u64 0] := hB22
 have hT0 := hT0.t0 hT20
 have hL := hL.tch0 hT20
 have hP := hP.tch0 hT20
 have hM := hM.tch0 hT20
 have hB4 := hB4.tch0 hT20
 have hB10 := hB10.tch0 hT20
 have nF_hB22 : ¬ F (w16.heap.size) := fun e => by have := hlt_ _ e; omega
 refine ⟨⟨hM, hP, hB4⟩, ?_⟩
 refine zD 8 rfl (S_storeA (b := w16.heap.size) (j := 0) (cs := [.int .u64 (((kg l a).1 : Nat) : Int), .int .u64 (((kg l a).2 : Nat) : Int)]) (by kernel_rfl) (by kernel_rfl) (by kernel_rfl) (by simp [oneV]) hB22 (by simp) fun w30 hT31 hs32 hB22' => ?_)
 have hT0 := (hT0).then hT31 (fun c e => by have : c = w16.heap.size := e; omega)
 have hL := hL.tchS hT31 (fun c e q => by cases e; exact nF_hB22 q)
 have hP := hP.tch hT31 (hP.ne hB22 (by decide))
 have hM := hM.tch hT31 (fun e => hM.ne hB22 e)
 have hB4 := hB4.tch hT31 (hB4.ne hB22 (by decide))
 have hB10 := hB10.tch hT31 (fun e => by have : w1.heap.size = w16.heap.size := e; omega)
 replace hB22 : Blk w30 w16.heap.size 113 [.int .u64 (((kg l a).1 : Nat) : Int), .int .u64 (((kg l a).2 : Nat) : Int)] := hB22'
 refine ⟨⟨hM, hP, hB4⟩, ?_⟩
 refine d_done (by kernel_rfl) ?_
 refine W_seq ?_
 refine W_draw (fun w' => MapE Try.prog 3 w' mb (spR l) ∧ Blk w' (f) 111 [.pointer (some ⟨p, 0, none⟩), .map (some mb)] ∧ Blk w' (w.heap.size) 32 [.int .i64 26, .int .i64 ((nw : Nat) : Int), .int .i64 ((a : Nat) : Int), .int .i64 xb, .int .i64 xc, .int .u64 xv]) (by kernel_rfl) (by kernel_rfl) (by kernel_rfl) fun w33 hT34 hh35 => ?_
 have hT0 := hT0.t0 hT34
 have hL := hL.tch0 hT34
 have hP := hP.tch0 hT34
 have hM := hM.tch0 hT34
 have hB4 := hB4.tch0 hT34
 have hB10 := hB10.tch0 hT34
 have hB22 := hB22.tch0 hT34
 refine zK [0, 4, 1, 2] #[true, true, true, false, true, false, false, false] [(19, .pointer (some ⟨f, 0, none⟩)), (23, .pointer (some ⟨w.heap.size, 2, none⟩)), (20, .pointer (some ⟨f, 0, none⟩)), (21, .pointer (some ⟨f, 0, none⟩))] ⟨hM, hP, hB4⟩ ?_
 refine zV 3 rfl (.pointer (some ⟨p, 0, none⟩)) (fun _ ⟨hM, hP, hB4⟩ => R_load (v := .pointer (some ⟨p, 0, none⟩)) (by kernel_rfl) (by kernel_rfl) ((hP.cell 0).trans rfl)) ⟨hM, hP, hB4⟩ ?_
 refine zV 5 rfl (.int .i64 ((a : Nat) : Int)) (fun _ ⟨hM, hP, hB4⟩ => R_load (v := .int .i64 ((a : Nat) : Int)) (by kernel_rfl) (by kernel_rfl) ((hB4.cell 2).trans rfl)) ⟨hM, hP, hB4⟩ ?_
 refine zD 6 rfl (S_call (args := [.pointer (some ⟨p, 0, none⟩), .int .i64 ((a : Nat) : Int)]) (by kernel_rfl) ((by have q := width_ok F p most N W ((a : Nat) : Int) _ hL hN; rw [hwa] at q; exact q)) ?_)
 rintro _ w36 ⟨rfl, hT37⟩
 have hT0 := hT0.t0 hT37
 have hL := hL.tch0 hT37
 have hP := hP.tch0 hT37
 have hM := hM.tch0 hT37
 have hB4 := hB4.tch0 hT37
 have hB10 := hB10.tch0 hT37
 have hB22 := hB22.tch0 hT37
 refine ⟨⟨hM, hP, hB4⟩, ?_⟩
 refine zK [7] #[true, true, true, true, true, true, true, true] [(6, .int .i64 ((wd : Nat) : Int))] ⟨hM, hP, hB4⟩ ?_
 refine d_done (by kernel_rfl) ?_
 refine W_seq ?_
 refine zQ ?_
 refine zS [(26, .pointer (some ⟨w.heap.size, 0, none⟩))] ?_
 refine zL (.int .i64 26) ((hB4.cell 0).trans rfl) ?_
 refine op_nil ?_
 refine W_block ?_
 refine zQ ?_
 refine zS [(29, .bool false), (28, .bool false)] ?_
 refine zO false (fun h => nomatch h) (fun _ => ?_)
 refine W_seq ?_
 refine zQ ?_
 refine zS [(36, .bool false), (35, .bool false)] ?_
 refine zO false (fun h => nomatch h) (fun _ => ?_)
 refine zR ?_
 refine zS [(37, .bool false), (35, .bool false)] ?_
 refine zO false (fun h => nomatch h) (fun _ => ?_)
 refine zQ ?_
 refine zS [(42, .bool false), (41, .bool false)] ?_
 refine zO false (fun h => nomatch h) (fun _ => ?_)
 refine zQ ?_
 refine zS [(56, .bool false), (55, .bool false)] ?_
 refine zO false (fun h => nomatch h) (fun _ => ?_)
 refine zQ ?_
 refine zS [(93, .bool false), (92, .bool false)] ?_
 refine zO false (fun h => nomatch h) (fun _ => ?_)
 refine zQ ?_
 refine zS [(110, .bool false), (109, .bool false)] ?_
 refine zO false (fun h => nomatch h) (fun _ => ?_)
 refine zQ ?_
 refine zS [(141, .bool true), (140, .bool true)] ?_
 refine zO true (fun _ => ?_) (fun h => nomatch h)
 refine W_seq ?_
 refine zQ ?_
 refine zS [(142, .pointer (some ⟨w16.heap.size, 1, none⟩))] ?_
 refine zL (.int .u64 (((kg l a).2 : Nat) : Int)) ((hB22.cell 1).trans rfl) ?_
 refine zS [(144, .int .i64 ((wd : Nat) : Int)), (145, .int .i64 (IntKind.i64.wrap (((wd : Nat) : Int) - 1)))] ?_
 rw [show IntKind.i64.wrap (((wd : Nat) : Int) - 1) = ((wd : Nat) : Int) - 1 from wrap_i64 (by omega) (by omega)]
 refine fixR (y := ((wd - 1 : Nat) : Int)) (by omega) ?_
 refine stv (v := .int .u64 ((((kg l a).2) / pw (wd - 1) : Nat) : Int)) (by rfl) (R_shrP (k2 := .i64) ((kg l a).2) (wd - 1) (by kernel_rfl) (by kernel_rfl) (by omega)) ?_
 have hu38 : ((kg l a).2) / pw (wd - 1) < 18446744073709551616 := div_lt64 ua2
 refine zS [(147, .int .u64 (IntKind.u64.wrap (BitVec.ofInt 64 ((((kg l a).2) / pw (wd - 1) : Nat) : Int) &&& BitVec.ofInt 64 1).toNat))] ?_
 rw [show IntKind.u64.wrap (BitVec.ofInt 64 ((((kg l a).2) / pw (wd - 1) : Nat) : Int) &&& BitVec.ofInt 64 1).toNat = (((((kg l a).2) / pw (wd - 1)) &&& 1 : Nat) : Int) from and_u (((kg l a).2) / pw (wd - 1)) 1 hu38 (by omega)]
 have hu39 : (((kg l a).2) / pw (wd - 1)) &&& 1 < 18446744073709551616 := and_lt hu38
 refine zS [(148, .bool ((((((kg l a).2) / pw (wd - 1)) &&& 1 : Nat) : Int) == 1))] ?_
 refine zO ((((((kg l a).2) / pw (wd - 1)) &&& 1 : Nat) : Int) == 1) (fun hc40 => ?_) (fun hc40 => ?_)
 ·
  replace hc40 : (((((kg l a).2) / pw (wd - 1)) &&& 1 : Nat) : Int) = 1 := (eq_of_beq hc40)
  refine zQ ?_
  refine zS [(149, .pointer (some ⟨w.heap.size, 1, none⟩))] ?_
  refine zL (.int .i64 ((nw : Nat) : Int)) ((hB4.cell 1).trans rfl) ?_
  refine zC (all_ok nw _ (by omega)) ?_
  rintro _ w41 ⟨rfl, hT42⟩
  have hT0 := hT0.t0 hT42
  have hL := hL.tch0 hT42
  have hP := hP.tch0 hT42
  have hM := hM.tch0 hT42
  have hB4 := hB4.tch0 hT42
  have hB10 := hB10.tch0 hT42
  have hB22 := hB22.tch0 hT42
  refine st (by rfl) (S_storeA (b := w1.heap.size) (j := 0) (cs := [.int .u64 (((rall nw).1 : Nat) : Int), .int .u64 (((rall nw).2 : Nat) : Int)]) (by kernel_rfl) (by kernel_rfl) (by kernel_rfl) (by simp [oneV]) hB10 (by simp) fun w43 hT44 hs45 hB10' => ?_)
  have hT0 := (hT0).then hT44 (fun c e => by have : c = w1.heap.size := e; omega)
  have hL := hL.tchS hT44 (fun c e q => by cases e; exact nF_hB10 q)
  have hP := hP.tch hT44 (hP.ne hB10 (by decide))
  have hM := hM.tch hT44 (fun e => hM.ne hB10 e)
  have hB4 := hB4.tch hT44 (hB4.ne hB10 (by decide))
  have hB22 := hB22.tch hT44 (fun e => by have : w16.heap.size = w1.heap.size := e; omega)
  replace hB10 : Blk w43 w1.heap.size 113 [.int .u64 (((rall nw).1 : Nat) : Int), .int .u64 (((rall nw).2 : Nat) : Int)] := hB10'
  refine op_nil ?_
  refine W_ret ?_
  refine ⟨_, Res_cell (b := w1.heap.size) (cs := [.int .u64 (((rall nw).1 : Nat) : Int), .int .u64 (((rall nw).2 : Nat) : Int)]) (by rfl) (by kernel_rfl) (by kernel_rfl) hB10 (by kernel_rfl) (by kernel_rfl), ?_⟩
  have e : rone 26 nw wd up (kg l a) y z lo V = rall nw := by show (if (kg l a).2.testBit (wd - 1) = true then rall nw else kg l a) = _; first | rw [if_pos (bit_and.1 (by assumption))] | rw [if_neg (fun q => absurd (bit_and.2 q) (by assumption))]
  rw [e]
  exact ⟨rfl, hT0⟩
 ·
  replace hc40 : (((((kg l a).2) / pw (wd - 1)) &&& 1 : Nat) : Int) ≠ 1 := (ne_of_beq_false hc40)
  refine W_skip ?_
  refine zQ ?_
  refine st (by rfl) (S_val (v := .agg #[.int .u64 (((kg l a).1 : Nat) : Int), .int .u64 (((kg l a).2 : Nat) : Int)]) (R_loadA [.int .u64 (((kg l a).1 : Nat) : Int), .int .u64 (((kg l a).2 : Nat) : Int)] (by kernel_rfl) (by kernel_rfl) (by kernel_rfl) (fun k u hk => by rw [hB22.cell]; exact get_part _ 0 _ k u rfl hk)) ?_)
  refine st (by rfl) (S_storeA (b := w1.heap.size) (j := 0) (cs := [.int .u64 (((kg l a).1 : Nat) : Int), .int .u64 (((kg l a).2 : Nat) : Int)]) (by kernel_rfl) (by kernel_rfl) (by kernel_rfl) (by simp [oneV]) hB10 (by simp) fun w46 hT47 hs48 hB10' => ?_)
  have hT0 := (hT0).then hT47 (fun c e => by have : c = w1.heap.size := e; omega)
  have hL := hL.tchS hT47 (fun c e q => by cases e; exact nF_hB10 q)
  have hP := hP.tch hT47 (hP.ne hB10 (by decide))
  have hM := hM.tch hT47 (fun e => hM.ne hB10 e)
  have hB4 := hB4.tch hT47 (hB4.ne hB10 (by decide))
  have hB22 := hB22.tch hT47 (fun e => by have : w16.heap.size = w1.heap.size := e; omega)
  replace hB10 : Blk w46 w1.heap.size 113 [.int .u64 (((kg l a).1 : Nat) : Int), .int .u64 (((kg l a).2 : Nat) : Int)] := hB10'
  refine op_nil ?_
  refine W_ret ?_
  refine ⟨_, Res_cell (b := w1.heap.size) (cs := [.int .u64 (((kg l a).1 : Nat) : Int), .int .u64 (((kg l a).2 : Nat) : Int)]) (by rfl) (by kernel_rfl) (by kernel_rfl) hB10 (by kernel_rfl) (by kernel_rfl), ?_⟩
  have e : rone 26 nw wd up (kg l a) y z lo V = kg l a := by show (if (kg l a).2.testBit (wd - 1) = true then rall nw else kg l a) = _; first | rw [if_pos (bit_and.1 (by assumption))] | rw [if_neg (fun q => absurd (bit_and.2 q) (by assumption))]
  rw [e]
  exact ⟨rfl, hT0⟩

end Go.Proofs.YtlbadnpgmkobdaaV
