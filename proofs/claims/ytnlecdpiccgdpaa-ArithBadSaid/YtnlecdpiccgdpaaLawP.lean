/- Laws of rows: plain. -/
import Derived.Test.YtnlecdpiccgdpaaZ1
import Derived.Test.YtnlecdpiccgdpaaZ2
import Derived.Test.YtnlecdpiccgdpaaVx12
set_option linter.unusedVariables false
set_option linter.unusedSimpArgs false
namespace Go.Proofs.YtnlecdpiccgdpaaV
open Go Go.RowKit Go.Proofs
theorem mvB_congr {up : Bool} {m : Nat} {A A' : Nat → Bool} {fl fl' : Bool} {s j : Nat} (h : ∀ j, j < m → A j = A' j) (hf : fl = fl') (hj : j < m) : mvB up m A fl s j = mvB up m A' fl' s j := by
  subst hf
  unfold mvB
  split
  · split
    · exact h _ (by omega)
    · rfl
  · split
    · exact h _ (by omega)
    · rfl
theorem cut_same {w x j : Nat} (hj : j < w) : (cutN w x).testBit j = x.testBit j := by rw [cut_bit, decide_eq_true hj, Bool.true_and]
theorem bval_test {m : Nat} {f : Nat → Bool} {j : Nat} (hj : j < m) : (bval m f).testBit j = f j := by rw [bval_bit, decide_eq_true hj, Bool.true_and]
theorem move_says {be : Nat → Bool} {wd x1 x2 : Nat} {up fl fl' : Bool} {r row1 row2 : List Nat} (hv : ∀ j, j < wd → lt_ be (r.getD j 0) = mvB up wd (fun j => lt_ be (row1.getD j 0)) fl (bval wd (fun j => lt_ be (row2.getD j 0))) j)
    (h1 : ∀ j, j < wd → lt_ be (row1.getD j 0) = x1.testBit j) (h2 : ∀ j, j < wd → lt_ be (row2.getD j 0) = x2.testBit j) (hf : fl = fl') :
    ∀ j, j < wd → lt_ be (r.getD j 0) = (bval wd (mvB up wd (fun j => (cutN wd x1).testBit j) fl' (cutN wd x2))).testBit j := fun j hj => by
  rw [bval_test hj, hv j hj, bval_cut h2]
  exact mvB_congr (fun k hk => (h1 k hk).trans (cut_same hk).symm) hf hj
/-- Two words' rows, of which the second one is made after the first one. -/
theorem two_uniq {n0 n1 n2 w x1 i1 x2 i2 : Nat} {cs cs2 : List (List Nat)} {I0 I1 I2 : Nat → Prop} {r1 h1 r2 h2 : List Nat} (a : RowI n0 cs I0 n1 I1 w r1 h1 x1 i1) (b : RowI n1 cs2 I1 n2 I2 w r2 h2 x2 i2) : ∀ h h', h ∈ h1 ++ h2 → h' ∈ h1 ++ h2 → h / 2 = h' / 2 → h = h' := fun h h' q q' e => by
  rcases List.mem_append.1 q with q | q <;> rcases List.mem_append.1 q' with q' | q'
  · exact a.uniq h h' q q' e
  · have := (a.new h q).2.1; have := (b.new h' q').1; omega
  · have := (a.new h' q').2.1; have := (b.new h q).1; omega
  · exact b.uniq h h' q q' e
theorem two_in {n0 n1 n2 w x1 i1 x2 i2 : Nat} {cs cs2 : List (List Nat)} {I1 I2 : Nat → Prop} {r1 h1 r2 h2 : List Nat} (a : RowI n0 cs (fun _ => False) n1 I1 w r1 h1 x1 i1) (b : RowI n1 cs2 I1 n2 I2 w r2 h2 x2 i2) : ∀ v, I2 v → ∃ x, x ∈ h1 ++ h2 ∧ x / 2 = v := fun v hv => by
  rcases b.inp v hv with q | ⟨h, q, e⟩
  · rcases a.inp v q with q | ⟨h, q, e⟩
    · exact q.elim
    · exact ⟨h, List.mem_append.2 (.inl q), e⟩
  · exact ⟨h, List.mem_append.2 (.inr q), e⟩
theorem two_fit {n0 n1 n2 w x1 i1 x2 i2 : Nat} {cs cs2 : List (List Nat)} {I0 I1 I2 : Nat → Prop} {r1 h1 r2 h2 : List Nat} (a : RowI n0 cs I0 n1 I1 w r1 h1 x1 i1) (b : RowI n1 cs2 I1 n2 I2 w r2 h2 x2 i2) : ∀ x, x ∈ h1 ++ h2 → I2 (x / 2) ∧ (fun v => decide (2 * v ∈ h1 ++ h2)) (x / 2) = !decide (x % 2 = 1) := fun x hx => by
  refine ⟨?_, hold_truths (two_uniq a b) x hx⟩
  rcases List.mem_append.1 hx with q | q
  · exact b.old _ (a.new x q).2.2
  · exact (b.new x q).2.2
/-- What such rows say, where the inputs are as they were put. -/
theorem two_says {n0 n1 n2 w x1 i1 x2 i2 : Nat} {cs cs2 : List (List Nat)} {I0 I1 I2 : Nat → Prop} {r1 h1 r2 h2 : List Nat} {be : Nat → Bool} (a : RowI n0 cs I0 n1 I1 w r1 h1 x1 i1) (b : RowI n1 cs2 I1 n2 I2 w r2 h2 x2 i2) (hm : Mod cs be) (hm2 : Mod cs2 be) (hbt : ∀ v, I2 v → be v = (fun v => decide (2 * v ∈ h1 ++ h2)) v) :
    (∀ j, j < w → lt_ be (r1.getD j 0) = x1.testBit j) ∧ (∀ j, j < w → lt_ be (r2.getD j 0) = x2.testBit j) := by
  have ht := hold_true (be := be) (two_uniq a b) (fun x hx => hbt _ (two_fit a b x hx).1)
  exact ⟨a.val be hm (fun h hh => ht h (List.mem_append.2 (.inl hh))), b.val be hm2 (fun h hh => ht h (List.mem_append.2 (.inr hh)))⟩
theorem RowI.plain {n0 n1 w x i : Nat} {cs : List (List Nat)} {I0 I1 : Nat → Prop} {r h : List Nat} (a : RowI n0 cs I0 n1 I1 w r h x 0) : h = [] ∧ ∀ be, Mod cs be → ∀ j, j < w → lt_ be (r.getD j 0) = x.testBit j := by
  have e : h = [] := a.none (fun j _ => Nat.zero_testBit j)
  exact ⟨e, fun be hm => a.val be hm (fun z hz => by rw [e] at hz; cases hz)⟩
theorem RowI.noin {n0 n1 w x i : Nat} {cs : List (List Nat)} {I0 I1 : Nat → Prop} {r h : List Nat} (a : RowI n0 cs I0 n1 I1 w r h x 0) (hI : ∀ v, ¬ I0 v) : ∀ v, ¬ I1 v := fun v hv => by
  rcases a.inp v hv with q | ⟨z, hz, _⟩
  · exact hI v q
  · rw [(RowI.plain (i := 0) a).1] at hz; cases hz
theorem u64nat (y : Int) : ∃ k : Nat, IntKind.u64.wrap y = ((k : Nat) : Int) := by
  refine ⟨(IntKind.u64.wrap y).toNat, ?_⟩
  have : 0 ≤ IntKind.u64.wrap y := by
    simp only [IntKind.wrap, IntKind.bits, IntKind.signed]; simp; omega
  omega
theorem Blk.own0 {w : World} {g : Nat} (h : Blk w g 3 []) : Own w 0 3 1 (.slice (some ⟨g, 0, none⟩) 0 0) 0 [] := Blk.own1 (cells := []) (sp := []) h rfl rfl (Nat.le_refl _) (by simp [maxLen])
theorem nats_oneV (l : List Nat) : ∀ u ∈ nats l, oneV u = true := fun u hu => by
  simp only [nats, List.mem_map] at hu
  obtain ⟨x, _, rfl⟩ := hu
  rfl
theorem RdX.addr {F : Nat → Prop} {w : World} {m : Nat} {A : Option Addr} {cells : List Value} (h : RdX F w m A cells) (hm : 0 < m) : ∃ b off, A = some ⟨b, off, none⟩ := h.1.some_ hm
theorem badR_neg {m k : Nat} {a b : List Int} (hk : k < m) (hl : b.length = m) : BadR m a m (b.set k (-1)) := fun q => by
  have := q.2.2.2 k hk
  rw [List.getD_eq_getElem?_getD, List.getElem?_set_self (by omega)] at this
  simp at this
theorem badR_neg1 {m k : Nat} {a b : List Int} (hk : k < m) (hl : a.length = m) : BadR m (a.set k (-1)) m b := fun q => by
  have := q.2.2.1 k hk
  rw [List.getD_eq_getElem?_getD, List.getElem?_set_self (by omega)] at this
  simp at this
theorem badR_len {m k : Nat} {a b : List Int} (h : m ≠ k) : BadR m a k b := fun q => h q.2.1
theorem RdX.tail {F : Nat → Prop} {w : World} {m cp : Nat} {A : Option Addr} {a : List Nat} (h : RdX F w m A (nats a)) (hm : 1 ≤ m) : ∃ b, RdX F w (m - 1) (slA A 1 cp) (nats b) := by
  obtain ⟨b, off, rfl, hb, hc⟩ := h.1.2.2 (by omega)
  have hl := h.len
  by_cases e : cp = 1
  · refine ⟨a.take (m - 1), ⟨by rw [nats_length]; simp; omega, by have := h.1.2.1; omega, fun q => ⟨b, off, by unfold slA; rw [if_pos e], hb, fun k u hk => hc k u ?_⟩⟩, fun c q => h.2 c (by unfold slA at q; rw [if_pos e] at q; exact q)⟩
    unfold nats at *
    rw [List.map_take, List.getElem?_take] at hk
    split at hk
    · exact hk
    · cases hk
  · have es : slA (some ⟨b, off, none⟩) 1 cp = some ⟨b, off + 1, none⟩ := by unfold slA; rw [if_neg e]; rfl
    refine ⟨a.drop 1, ⟨by rw [nats_length]; simp; omega, by have := h.1.2.1; omega, fun q => ⟨b, off + 1, es, hb, fun k u hk => ?_⟩⟩, fun c q => h.2 c (by rw [es] at q; exact q)⟩
    have := hc (1 + k) u (by unfold nats at *; rw [List.map_drop, List.getElem?_drop] at hk; exact hk)
    rw [Nat.add_assoc]; exact this
end Go.Proofs.YtnlecdpiccgdpaaV
