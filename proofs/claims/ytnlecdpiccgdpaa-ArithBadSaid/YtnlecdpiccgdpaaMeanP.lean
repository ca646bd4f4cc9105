/- What rows of sums and comparisons say: plain. -/
import Derived.Test.YtnlecdpiccgdpaaS1
import Derived.Test.YtnlecdpiccgdpaaS3
import Derived.Test.YtnlecdpiccgdpaaLawP
set_option linter.unusedVariables false
set_option linter.unusedSimpArgs false
namespace Go.Proofs.YtnlecdpiccgdpaaV
open Go Go.RowKit Go.Proofs
section
variable {be : Nat → Bool} {wd xa xb : Nat} {r ra rb : List Nat}
theorem con_says {n : Nat} {cs : List (List Nat)} {I : Nat → Prop} {x : Nat} (hG : GI n cs I) (hm : Mod cs be) (hv : ∀ j, j < wd → r.getD j 0 = if x.testBit j = true then 0 else 1) : ∀ j, j < wd → lt_ be (r.getD j 0) = x.testBit j := fun j hj => by
  rw [hv j hj]
  cases h : x.testBit j with
  | true => exact hG.t0 hm
  | false => exact hG.t1 hm
variable (ha : ∀ j, j < wd → lt_ be (ra.getD j 0) = xa.testBit j) (hb : ∀ j, j < wd → lt_ be (rb.getD j 0) = xb.testBit j)
include ha hb
theorem add_says (hv : ∀ j, j < wd → lt_ be (r.getD j 0) = sumB (fun j => lt_ be (ra.getD j 0)) (fun j => lt_ be (rb.getD j 0)) false j) : bval wd (fun j => lt_ be (r.getD j 0)) = cutN wd (cutN wd (cutN wd xa + cutN wd xb)) := by
  rw [bval_congr hv, sum_mod, bval_cut ha, bval_cut hb, cut_cut]; rfl
theorem sub_says (hv : ∀ j, j < wd → lt_ be (r.getD j 0) = sumB (fun j => lt_ be (ra.getD j 0)) (fun j => !lt_ be (rb.getD j 0)) true j) : bval wd (fun j => lt_ be (r.getD j 0)) = cutN wd (subN wd (cutN wd xa) (cutN wd xb)) := by
  rw [bval_congr hv, sub_mod _ (fun j => lt_ be (rb.getD j 0)), bval_cut ha, bval_cut hb, subN_lt]
theorem eq_says {x : Nat} (hv : lt_ be x = eqB (fun j => lt_ be (ra.getD j 0)) (fun j => lt_ be (rb.getD j 0)) wd) : lt_ be x = decide (cutN wd xa = cutN wd xb) := by
  rw [hv, eqB_val, bval_cut ha, bval_cut hb]
theorem less_says {x : Nat} (hv : lt_ be x = lsB (fun j => lt_ be (ra.getD j 0)) (fun j => lt_ be (rb.getD j 0)) wd) : lt_ be x = decide (cutN wd xa < cutN wd xb) := by
  rw [hv, lsB_val, bval_cut ha, bval_cut hb]
theorem sless_says {x : Nat} (h1 : 1 ≤ wd) (hv : lt_ be x = lsB (flip wd (fun j => lt_ be (ra.getD j 0))) (flip wd (fun j => lt_ be (rb.getD j 0))) wd) : lt_ be x = decide (sgn wd xa < sgn wd xb) := by
  rw [hv, sless_val h1 ha hb]
theorem pick_says {x : Nat} (hl : lt_ be x = decide (cutN wd xa < cutN wd xb)) (hv : ∀ j, j < wd → lt_ be (r.getD j 0) = ite_ (lt_ be x) (lt_ be (ra.getD j 0)) (lt_ be (rb.getD j 0))) : (((bitN (decide (cutN wd xa < cutN wd xb)) : Nat) : Int) = 1 → bval wd (fun j => lt_ be (r.getD j 0)) = cutN wd xa) ∧ (((bitN (decide (cutN wd xa < cutN wd xb)) : Nat) : Int) ≠ 1 → bval wd (fun j => lt_ be (r.getD j 0)) = cutN wd xb) := by
  cases h : decide (cutN wd xa < cutN wd xb) with
  | true =>
    refine ⟨fun _ => ?_, fun q => absurd rfl q⟩
    rw [← bval_cut ha]
    refine bval_congr fun j hj => ?_
    rw [hv j hj, hl, h]; unfold ite_; simp
  | false =>
    refine ⟨(fun q => by cases q), fun _ => ?_⟩
    rw [← bval_cut hb]
    refine bval_congr fun j hj => ?_
    rw [hv j hj, hl, h]; unfold ite_; simp
omit hb
theorem neg_says (hw : wd ≤ 64) (hx : xa < 18446744073709551616) (hv : ∀ j, j < wd → lt_ be (r.getD j 0) = sumB (fun _ => false) (fun j => !lt_ be (ra.getD j 0)) true j) : bval wd (fun j => lt_ be (r.getD j 0)) = cutN wd ((0 + (18446744073709551616 - xa)) % 18446744073709551616) := by
  rw [bval_congr hv, sub_mod _ (fun j => lt_ be (ra.getD j 0)), bval_cut ha, bval_false, cut_sub64 hw hx]
  have := subN_cut (w := wd) (a := 0) (b := xa)
  rw [show cutN wd 0 = 0 from Nat.zero_mod _] at this
  exact this
end
theorem RdX.head {F : Nat → Prop} {w : World} {m h cp : Nat} {A : Option Addr} {a : List Nat} (hX : RdX F w m A (nats a)) (hh : h ≤ m) : ∃ b, RdX F w h (slA A 0 cp) (nats b) := by
  have hl := hX.len
  have es : ∀ b off, A = some ⟨b, off, none⟩ → slA A 0 cp = some ⟨b, off, none⟩ := fun b off e => by
    subst e; unfold slA; split; rfl; rfl
  have eb : blkOf (slA A 0 cp) = blkOf A := by unfold slA; split; rfl; cases A <;> rfl
  refine ⟨a.take h, ⟨by rw [nats_length]; simp; omega, by have := hX.1.2.1; omega, fun q => ?_⟩, fun c q => hX.2 c (by rw [eb] at q; exact q)⟩
  obtain ⟨b, off, e, hb, hc⟩ := hX.1.2.2 (by omega)
  refine ⟨b, off, es b off e, hb, fun k u hk => hc k u ?_⟩
  unfold nats at *
  rw [List.map_take, List.getElem?_take] at hk
  split at hk
  · exact hk
  · cases hk
theorem badR_nil : BadR 0 [] 0 [] := fun q => by have := q.1; omega
end Go.Proofs.YtnlecdpiccgdpaaV
