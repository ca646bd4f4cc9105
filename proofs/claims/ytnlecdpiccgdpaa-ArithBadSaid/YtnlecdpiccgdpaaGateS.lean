/- Gates: what each says, out of what its parts say: plain. -/
import Derived.Test.YtnlecdpiccgdpaaG4
set_option linter.unusedVariables false
set_option linter.unusedSimpArgs false
namespace GateP
theorem xor_mod (a b : Nat) : (a ^^^ b) % 2 = (a + b) % 2 := by
  rw [← Nat.and_one_is_mod, Nat.and_xor_distrib_right, Nat.and_one_is_mod, Nat.and_one_is_mod]
  rcases (show a % 2 = 0 ∨ a % 2 = 1 by omega) with h | h <;> rcases (show b % 2 = 0 ∨ b % 2 = 1 by omega) with h' | h' <;> simp [h, h'] <;> omega
/-- A literal whose sign is turned, or not. -/
def xr (x t : Nat) : Nat := if t = 1 then nt x else x
theorem xor_bit (x t : Nat) (h : t < 2) : x ^^^ t = xr x t := by
  unfold xr
  rcases (show t = 0 ∨ t = 1 by omega) with h | h
  · subst h; simp
  · subst h; rw [xor_one]; simp
theorem xr_lt (x t : Nat) (h : x < 9223372036854775808) : xr x t < 9223372036854775808 := by unfold xr nt; split <;> (try split) <;> omega
theorem xr_div (x t : Nat) : xr x t / 2 = x / 2 := by unfold xr; split <;> simp [nt_div]
open Go in
theorem xor_i64 (a b : Nat) (ha : a < 9223372036854775808) (hb : b < 9223372036854775808) (hc : a ^^^ b < 9223372036854775808) : IntKind.i64.wrap ((BitVec.ofInt 64 (a : Int) ^^^ BitVec.ofInt 64 (b : Int)).toNat : Int) = ((a ^^^ b : Nat) : Int) := by
  have e : (BitVec.ofInt 64 (a : Int) ^^^ BitVec.ofInt 64 (b : Int)).toNat = a ^^^ b := by rw [BitVec.toNat_xor, bv_nat a ha, bv_nat b hb]
  rw [e, IntKind.wrap_i64]; omega
theorem xor_lt (a b : Nat) (ha : a < 9223372036854775808) (hb : b < 9223372036854775808) : a ^^^ b < 9223372036854775808 := Nat.xor_lt_two_pow (n := 63) ha hb
open Go in
theorem turn_i64 (a b : Nat) (ha : a < 9223372036854775808) (hb : b < 9223372036854775808) : IntKind.i64.wrap ((BitVec.ofInt 64 (IntKind.i64.wrap ((BitVec.ofInt 64 (a : Int) ^^^ BitVec.ofInt 64 (b : Int)).toNat : Int)) &&& BitVec.ofInt 64 1).toNat : Int) = (((a + b) % 2 : Nat) : Int) := by
  rw [xor_i64 a b ha hb (xor_lt a b ha hb), and_i64 _ (xor_lt a b ha hb), xor_mod]
open Go in
theorem xr_i64 (x t : Nat) (hx : x < 9223372036854775808) (ht : t < 2) : IntKind.i64.wrap ((BitVec.ofInt 64 (x : Int) ^^^ BitVec.ofInt 64 (t : Int)).toNat : Int) = ((xr x t : Nat) : Int) := by
  rw [xor_i64 x t hx (by omega) (xor_lt x t hx (by omega)), xor_bit x t ht]
open Go in
theorem andNot_i64 (x : Nat) (h : x < 9223372036854775808) : IntKind.i64.wrap ((BitVec.ofInt 64 (x : Int) &&& ~~~BitVec.ofInt 64 1).toNat : Int) = ((2 * (x / 2) : Nat) : Int) := by
  have e : (BitVec.ofInt 64 (x : Int) &&& ~~~BitVec.ofInt 64 1).toNat = 2 * (x / 2) := by
    have h1 : (BitVec.ofInt 64 (x : Int) &&& ~~~BitVec.ofInt 64 1) = (BitVec.ofInt 64 (x : Int) >>> 1) <<< 1 := by
      apply BitVec.eq_of_getLsbD_eq
      intro i hi
      simp only [BitVec.getLsbD_and, BitVec.getLsbD_not, BitVec.getLsbD_shiftLeft, BitVec.getLsbD_ushiftRight]
      rcases (show i = 0 ∨ 0 < i by omega) with q | q
      · subst q; simp
      · have e3 : (BitVec.ofInt 64 1).getLsbD i = false := by
          rw [show BitVec.ofInt 64 1 = 1#64 from rfl, BitVec.getLsbD_one]
          simp; omega
        rw [e3, show 1 + (i - 1) = i by omega]
        simp [hi]
        omega
    rw [h1, BitVec.toNat_shiftLeft, BitVec.toNat_ushiftRight, bv_nat x h]
    rw [Nat.shiftRight_eq_div_pow, Nat.shiftLeft_eq]
    omega
  rw [e, IntKind.wrap_i64]; omega
end GateP
namespace Go.Proofs.YtnlecdpiccgdpaaV
open Go Go.RowKit Go.Proofs
section
variable {n n1 n2 : Nat} {cs cs1 cs2 : List (List Nat)} {I : Nat → Prop} {x y a b c : Nat} {f g : (Nat → Bool) → Bool}
theorem GR.nt (h : GR n cs n1 cs1 x f) : GR n cs n1 cs1 (GateP.nt x) (fun be => !f be) := ⟨h.1, h.2.1, by rw [nt_div]; exact h.2.2.1, fun be hm => by rw [lt_nt, h.2.2.2 be hm]⟩
theorem GR.eq (h : GR n cs n1 cs1 x f) (e : ∀ be, Mod cs1 be → f be = g be) : GR n cs n1 cs1 x g := ⟨h.1, h.2.1, h.2.2.1, fun be hm => by rw [h.2.2.2 be hm, e be hm]⟩
theorem GR.trans (h : GR n cs n1 cs1 x f) (k : GR n1 cs1 n2 cs2 y g) : GR n cs n2 cs2 y g := ⟨Nat.le_trans h.1 k.1, fun c hc => k.2.1 c (h.2.1 c hc), k.2.2.1, k.2.2.2⟩
theorem GR.lit (hx : x / 2 < n) : GR n cs n cs x (fun be => lt_ be x) := ⟨Nat.le_refl _, fun _ h => h, hx, fun _ _ => rfl⟩
theorem lt_xr (be : Nat → Bool) (x t : Nat) : lt_ be (GateP.xr x t) = (lt_ be x != decide (t = 1)) := by
  unfold GateP.xr
  split
  · rename_i h; rw [lt_nt]; simp [h]
  · rename_i h; simp [h]
theorem GR.xr (h : GR n cs n1 cs1 x f) (t : Nat) : GR n cs n1 cs1 (GateP.xr x t) (fun be => f be != decide (t = 1)) := ⟨h.1, h.2.1, by rw [GateP.xr_div]; exact h.2.2.1, fun be hm => by rw [lt_xr, h.2.2.2 be hm]⟩
theorem GI.t1 (h : GI n cs I) {be : Nat → Bool} (hm : Mod cs be) : lt_ be 1 = false := by
  have := h.t0 hm
  have e : (1 : Nat) = GateP.nt 0 := rfl
  rw [e, lt_nt, this]; rfl
theorem lt_min (be : Nat → Bool) (a b : Nat) : (lt_ be (min a b) && lt_ be (max a b)) = (lt_ be a && lt_ be b) := by
  rcases Nat.le_total a b with h | h
  · rw [Nat.min_eq_left h, Nat.max_eq_right h]
  · rw [Nat.min_eq_right h, Nat.max_eq_left h, Bool.and_comm]
theorem lt_minx (be : Nat → Bool) (a b : Nat) : (lt_ be (min a b) != lt_ be (max a b)) = (lt_ be a != lt_ be b) := by
  rcases Nat.le_total a b with h | h
  · rw [Nat.min_eq_left h, Nat.max_eq_right h]
  · rw [Nat.min_eq_right h, Nat.max_eq_left h]
    cases lt_ be a <;> cases lt_ be b <;> rfl
theorem and_b (h : GI n cs I) (ha : a / 2 < n) (hb : b / 2 < n) (e : min a b = 0 ∨ min a b = max a b) : GR n cs n cs (max a b) (fun be => lt_ be a && lt_ be b) := ⟨Nat.le_refl _, fun _ h => h, by omega, fun be hm => by
  show _ = (_ && _)
  rw [← lt_min]
  rcases e with e | e
  · rw [e, h.t0 hm]; rfl
  · rw [e, Bool.and_self]⟩
theorem and_1 (h : GI n cs I) (e : min a b = 1 ∨ max a b = GateP.nt (min a b)) : GR n cs n cs 1 (fun be => lt_ be a && lt_ be b) := ⟨Nat.le_refl _, fun _ h => h, by have := h.pos; omega, fun be hm => by
  show _ = (_ && _)
  rw [← lt_min, h.t1 hm]
  rcases e with e | e
  · rw [e, h.t1 hm]; rfl
  · rw [e, lt_nt]; cases lt_ be (min a b) <;> rfl⟩
theorem and_g (h : GR n cs n1 cs1 x (fun be => gv 0 (lt_ be (min a b)) (lt_ be (max a b)) (lt_ be 0))) : GR n cs n1 cs1 x (fun be => lt_ be a && lt_ be b) := h.eq fun be hm => by
  show gv 0 _ _ _ = _
  unfold gv
  rw [if_pos rfl]; exact lt_min be a b
theorem lt_half (be : Nat → Bool) (a : Nat) : lt_ be (2 * (a / 2)) = (lt_ be a != decide (a % 2 = 1)) := by
  unfold lt_
  rw [show 2 * (a / 2) / 2 = a / 2 by omega, show 2 * (a / 2) % 2 = 0 by omega]
  cases be (a / 2) <;> cases decide (a % 2 = 1) <;> rfl
theorem dec_par (a b : Nat) : decide ((a + b) % 2 = 1) = (decide (a % 2 = 1) != decide (b % 2 = 1)) := by
  rcases (show a % 2 = 0 ∨ a % 2 = 1 by omega) with h | h <;> rcases (show b % 2 = 0 ∨ b % 2 = 1 by omega) with h' | h' <;> simp [h, h', Nat.add_mod]
theorem xor_sem (be : Nat → Bool) (a b : Nat) : ((lt_ be (min (2 * (a / 2)) (2 * (b / 2))) != lt_ be (max (2 * (a / 2)) (2 * (b / 2)))) != decide ((a + b) % 2 = 1)) = (lt_ be a != lt_ be b) := by
  rw [lt_minx, lt_half, lt_half, dec_par]
  cases lt_ be a <;> cases lt_ be b <;> cases decide (a % 2 = 1) <;> cases decide (b % 2 = 1) <;> rfl
theorem xor_same (h : GI n cs I) (e : min (2 * (a / 2)) (2 * (b / 2)) = max (2 * (a / 2)) (2 * (b / 2))) : GR n cs n cs (GateP.xr 1 ((a + b) % 2)) (fun be => lt_ be a != lt_ be b) := ⟨Nat.le_refl _, fun _ h => h, by rw [GateP.xr_div]; exact h.pos, fun be hm => by
  show _ = (_ != _)
  rw [lt_xr, ← xor_sem, e, h.t1 hm]; simp⟩
theorem xor_0 (h : GI n cs I) (ha : a / 2 < n) (hb : b / 2 < n) (e : min (2 * (a / 2)) (2 * (b / 2)) = 0) : GR n cs n cs (GateP.xr (GateP.nt (max (2 * (a / 2)) (2 * (b / 2)))) ((a + b) % 2)) (fun be => lt_ be a != lt_ be b) := ⟨Nat.le_refl _, fun _ h => h, by rw [GateP.xr_div, nt_div]; omega, fun be hm => by
  show _ = (_ != _)
  rw [lt_xr, lt_nt, ← xor_sem, e, h.t0 hm]; simp⟩
theorem xor_g (h : GR n cs n1 cs1 x (fun be => gv 1 (lt_ be (min (2 * (a / 2)) (2 * (b / 2)))) (lt_ be (max (2 * (a / 2)) (2 * (b / 2)))) (lt_ be 0))) : GR n cs n1 cs1 (GateP.xr x ((a + b) % 2)) (fun be => lt_ be a != lt_ be b) := (h.xr _).eq fun be hm => by
  show (gv 1 _ _ _ != _) = _
  unfold gv
  rw [if_neg (by omega), if_pos rfl]; exact xor_sem be a b
def ite_ (c a b : Bool) : Bool := (c && a) || (!c && b)
theorem ite_a (h : GI n cs I) (ha : a / 2 < n) (e : c = 0 ∨ a = b) : GR n cs n cs a (fun be => ite_ (lt_ be c) (lt_ be a) (lt_ be b)) := ⟨Nat.le_refl _, fun _ h => h, ha, fun be hm => by
  show _ = ite_ _ _ _
  unfold ite_
  rcases e with e | e
  · rw [e, h.t0 hm]; simp
  · rw [e]; cases lt_ be c <;> cases lt_ be b <;> rfl⟩
theorem ite_1 (h0 : GI n cs I) (h : GR n cs n1 cs1 x (fun be => lt_ be c || lt_ be b)) (e : a = 0 ∨ a = c) : GR n cs n1 cs1 x (fun be => ite_ (lt_ be c) (lt_ be a) (lt_ be b)) := h.eq fun be hm => by
  show (_ || _) = ite_ _ _ _
  unfold ite_
  rcases e with e | e
  · rw [e, h0.t0 (hm.sub h.2.1)]; cases lt_ be c <;> rfl
  · rw [e]; cases lt_ be c <;> rfl
theorem ite_2 (h0 : GI n cs I) (h : GR n cs n1 cs1 x (fun be => lt_ be (GateP.nt c) && lt_ be b)) (e : a = 1 ∨ a = GateP.nt c) : GR n cs n1 cs1 x (fun be => ite_ (lt_ be c) (lt_ be a) (lt_ be b)) := h.eq fun be hm => by
  show (_ && _) = ite_ _ _ _
  unfold ite_
  rw [lt_nt]
  rcases e with e | e
  · rw [e, h0.t1 (hm.sub h.2.1)]; cases lt_ be c <;> rfl
  · rw [e, lt_nt]; cases lt_ be c <;> rfl
theorem ite_3 (h0 : GI n cs I) (h : GR n cs n1 cs1 x (fun be => lt_ be (GateP.nt c) || lt_ be a)) (e : b = 0 ∨ b = GateP.nt c) : GR n cs n1 cs1 x (fun be => ite_ (lt_ be c) (lt_ be a) (lt_ be b)) := h.eq fun be hm => by
  show (_ || _) = ite_ _ _ _
  unfold ite_
  rw [lt_nt]
  rcases e with e | e
  · rw [e, h0.t0 (hm.sub h.2.1)]; cases lt_ be c <;> simp
  · rw [e, lt_nt]; cases lt_ be c <;> simp
theorem ite_4 (h0 : GI n cs I) (h : GR n cs n1 cs1 x (fun be => lt_ be c && lt_ be a)) (e : b = 1 ∨ b = c) : GR n cs n1 cs1 x (fun be => ite_ (lt_ be c) (lt_ be a) (lt_ be b)) := h.eq fun be hm => by
  show (_ && _) = ite_ _ _ _
  unfold ite_
  rcases e with e | e
  · rw [e, h0.t1 (hm.sub h.2.1)]; cases lt_ be c <;> simp
  · rw [e]; cases lt_ be c <;> simp
theorem ite_5 (h : GR n cs n1 cs1 x (fun be => lt_ be c != lt_ be a)) (e : b = GateP.nt a) : GR n cs n1 cs1 (GateP.nt x) (fun be => ite_ (lt_ be c) (lt_ be a) (lt_ be b)) := h.nt.eq fun be hm => by
  show (!(_ != _)) = ite_ _ _ _
  unfold ite_
  rw [e, lt_nt]; cases lt_ be c <;> cases lt_ be a <;> rfl
theorem ite_g (h : GR n cs n1 cs1 x (fun be => gv 2 (lt_ be c) (lt_ be a) (lt_ be b))) : GR n cs n1 cs1 x (fun be => ite_ (lt_ be c) (lt_ be a) (lt_ be b)) := h.eq fun be hm => by
  show gv 2 _ _ _ = ite_ _ _ _
  unfold gv ite_
  rw [if_neg (by omega), if_neg (by omega)]
theorem ite_sw (h : GR n cs n1 cs1 x (fun be => ite_ (lt_ be (GateP.nt c)) (lt_ be b) (lt_ be a))) : GR n cs n1 cs1 x (fun be => ite_ (lt_ be c) (lt_ be a) (lt_ be b)) := h.eq fun be hm => by
  show ite_ _ _ _ = ite_ _ _ _
  unfold ite_
  rw [lt_nt]; cases lt_ be c <;> cases lt_ be a <;> cases lt_ be b <;> rfl
theorem or_g (h : GR n cs n1 cs1 x (fun be => lt_ be (GateP.nt a) && lt_ be (GateP.nt b))) : GR n cs n1 cs1 (GateP.nt x) (fun be => lt_ be a || lt_ be b) := h.nt.eq fun be hm => by
  show (!(_ && _)) = (_ || _)
  rw [lt_nt, lt_nt]; cases lt_ be a <;> cases lt_ be b <;> rfl
end
/-- What comes of a call that makes a gate. -/
def GRet (F : Nat → Prop) (p n : Nat) (cs : List (List Nat)) (I : Nat → Prop) (w : World) (d : Nat) (f : (Nat → Bool) → Bool) (v : Value) (w' : World) : Prop :=
  ∃ F' n' cs' x, v = .int .i64 ((x : Nat) : Int) ∧ GObj F' w' p n' cs' I ∧ Mv F F' w w' ∧ GR n cs n' cs' x f ∧ n' ≤ n + d
theorem obad_ok (F : Nat → Prop) (p n g mm : Nat) (cs : List (List Nat)) (I : Nat → Prop) (l : List Int) (r : Bool) (w : World) (h : GObj F w p n cs I) (hG : Blk w g 3 (ints .i64 l)) (hm : l.length = mm) (hm2 : mm ≤ 1099511627776) (hl : ∀ x, x ∈ l → x ≤ 9223372036854775807) (hr : badB n l = r) : Ret Try.prog 53 [.pointer (some ⟨p, 0, none⟩), .slice (some ⟨g, 0, none⟩) mm mm] w fun v w' => v = .bool r ∧ Tch N0 w w' := by
  obtain ⟨⟨A, cp, mb, Lv, hP, _⟩, _⟩ := h
  subst hr
  exact bad_ok p n g mm _ _ l w hP hG hm hm2 hl
end Go.Proofs.YtnlecdpiccgdpaaV
