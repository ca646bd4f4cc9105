/- What is kept of gates that were asked for: plain. -/
import Derived.Test.YtnlecdpiccgdpaaM1
set_option linter.unusedVariables false
set_option linter.unusedSimpArgs false
namespace Go.Proofs.YtnlecdpiccgdpaaV
open Go Go.RowKit Go.Proofs
/-- What a gate of a kind says. -/
def saysF (k : Int) (a b c : Bool) : Bool := if k = 1 then a && b else if k = 2 then a || b else if k = 3 then a != b else if k = 4 then (a && b) || (!a && c) else (a && b) || (a && c) || (b && c)
/-- A literal's truth; of none: false. -/
def litV (be : Nat → Bool) (c : Int) : Bool := if c < 0 then false else lt_ be c.toNat
def litF (n : Nat) (c : Int) : Prop := c < 0 ∨ c / 2 < (n : Int)
theorem litV_nat (be : Nat → Bool) (x : Nat) : litV be ((x : Nat) : Int) = lt_ be x := by unfold litV; rw [if_neg (by omega), Int.toNat_natCast]
theorem saysF_lo (k : Int) (a b c c' : Bool) (hk : k = 1 ∨ k = 2 ∨ k = 3) : saysF k a b c = saysF k a b c' := by
  unfold saysF
  rcases hk with e | e | e <;> subst e <;> rfl
/-- What is asked of a told literal and of its gate. -/
def ArgOk (n : Nat) (cs : List (List Nat)) (x : Nat) (d : Int × Int × Int × Int) : Prop :=
  x / 2 < n ∧ (d.1 = 6 → x = 0) ∧ (0 < d.1 → d.1 < 6 → (litF n d.2.1 ∧ litF n d.2.2.1 ∧ litF n d.2.2.2) ∧ ∀ be, Mod cs be → lt_ be x = saysF d.1 (litV be d.2.1) (litV be d.2.2.1) (litV be d.2.2.2))
theorem litF.mono {n n' : Nat} {c : Int} (h : litF n c) (hn : n ≤ n') : litF n' c := by unfold litF at *; omega
theorem ArgOk.mono {n n' : Nat} {cs cs' : List (List Nat)} {x : Nat} {d : Int × Int × Int × Int} (h : ArgOk n cs x d) (hn : n ≤ n') (hs : ∀ c, c ∈ cs → c ∈ cs') : ArgOk n' cs' x d :=
  ⟨by have := h.1; omega, h.2.1, fun h1 h2 => by
    obtain ⟨⟨a, b, c⟩, e⟩ := h.2.2 h1 h2
    exact ⟨⟨a.mono hn, b.mono hn, c.mono hn⟩, fun be hb => e be (hb.sub hs)⟩⟩
theorem app_lt {l m : List Nat} {j : Nat} (h : j < l.length) : (l ++ m).getD j 0 = l.getD j 0 := by simp [List.getD_eq_getElem?_getD, List.getElem?_append_left h]
theorem app_last {l : List Nat} {x : Nat} : (l ++ [x]).getD l.length 0 = x := by simp [List.getD_eq_getElem?_getD]
def dsPush (k : Nat) (ds : Nat → Int × Int × Int × Int) (d : Int × Int × Int × Int) : Nat → Int × Int × Int × Int := fun j => if j < k then ds j else d
def ArgsInv (n : Nat) (cs : List (List Nat)) (k : Nat) (told : List Nat) (ac : List Value) (ds : Nat → Int × Int × Int × Int) : Prop := told.length = k ∧ ac.length = k * 4 ∧ Deeds4 k ac ds ∧ (∀ j, j < k → ArgOk n cs (told.getD j 0) (ds j))
theorem ArgsInv.zero (n : Nat) (cs : List (List Nat)) (ds : Nat → Int × Int × Int × Int) : ArgsInv n cs 0 [] [] ds := ⟨rfl, rfl, fun i hi => by omega, fun j hj => by omega⟩
theorem ArgsInv.mono {n n' : Nat} {cs cs' : List (List Nat)} {k : Nat} {told : List Nat} {ac : List Value} {ds : Nat → Int × Int × Int × Int} (h : ArgsInv n cs k told ac ds) (hn : n ≤ n') (hs : ∀ c, c ∈ cs → c ∈ cs') : ArgsInv n' cs' k told ac ds := ⟨h.1, h.2.1, h.2.2.1, fun j hj => (h.2.2.2 j hj).mono hn hs⟩
theorem ArgsInv.fit {n : Nat} {cs : List (List Nat)} {k : Nat} {told : List Nat} {ac : List Value} {ds : Nat → Int × Int × Int × Int} (h : ArgsInv n cs k told ac ds) : ∀ z, z ∈ told → z / 2 < n := fun z hz => by
  obtain ⟨j, hj, rfl⟩ := memg hz
  exact (h.2.2.2 j (by rw [← h.1]; exact hj)).1
theorem ArgsInv.push {n : Nat} {cs : List (List Nat)} {k : Nat} {told : List Nat} {ac : List Value} {ds : Nat → Int × Int × Int × Int} (h : ArgsInv n cs k told ac ds) {x : Nat} {d0 d1 d2 d3 : Int} (hx : ArgOk n cs x (d0, d1, d2, d3)) (h0 : b64 d0) (h1 : b64 d1) (h2 : b64 d2) (h3 : b64 d3) :
    ArgsInv n cs (k + 1) (told ++ [x]) (ac ++ [.int .i64 d0, .int .i64 d1, .int .i64 d2, .int .i64 d3]) (dsPush k ds (d0, d1, d2, d3)) := by
  obtain ⟨l1, l2, hd, ha⟩ := h
  refine ⟨by simp [l1], by simp [l2]; omega, fun i hi => ?_, fun j hj => ?_⟩
  · by_cases e : i < k
    · have q := hd i e
      have g : ∀ m, m < k * 4 → (ac ++ [.int .i64 d0, .int .i64 d1, .int .i64 d2, .int .i64 d3])[m]? = ac[m]? := fun m hm => List.getElem?_append_left (by omega)
      unfold dsPush
      rw [if_pos e, g _ (by omega), g _ (by omega), g _ (by omega), g _ (by omega)]
      exact q
    · have e' : i = k := by omega
      subst e'
      unfold dsPush
      rw [if_neg (by omega)]
      have g : ∀ m, (ac ++ [.int .i64 d0, .int .i64 d1, .int .i64 d2, .int .i64 d3])[i * 4 + m]? = [Value.int .i64 d0, .int .i64 d1, .int .i64 d2, .int .i64 d3][m]? := fun m => by
        rw [List.getElem?_append_right (by omega), l2]; congr 1; omega
      exact ⟨g 0, g 1, g 2, g 3, h0, h1, h2, h3⟩
  · by_cases e : j < k
    · unfold dsPush
      rw [if_pos e, app_lt (by omega)]
      exact ha j e
    · have e' : j = told.length := by omega
      subst e'
      unfold dsPush
      rw [if_neg (by omega), app_last]
      exact hx
/-- Inputs, in the order in which they were made. -/
def InpInv (n : Nat) (I : Nat → Prop) (k : Nat) (inp : List Nat) : Prop := inp.length = k ∧ (∀ v, I v → ∃ j, j < k ∧ inp.getD j 0 / 2 = v) ∧ (∀ j, j < k → I (inp.getD j 0 / 2) ∧ inp.getD j 0 / 2 < n) ∧ (∀ j j', j < j' → j' < k → inp.getD j 0 / 2 < inp.getD j' 0 / 2)
theorem InpInv.zero (n : Nat) : InpInv n (fun _ => False) 0 [] := ⟨rfl, fun v h => h.elim, fun j h => by omega, fun j j' _ h => by omega⟩
theorem InpInv.mono {n n' : Nat} {I : Nat → Prop} {k : Nat} {inp : List Nat} (h : InpInv n I k inp) (hn : n ≤ n') : InpInv n' I k inp := ⟨h.1, h.2.1, fun j hj => ⟨(h.2.2.1 j hj).1, by have := (h.2.2.1 j hj).2; omega⟩, h.2.2.2⟩
theorem InpInv.push {n : Nat} {I : Nat → Prop} {k : Nat} {inp : List Nat} (h : InpInv n I k inp) : InpInv (n + 1) (fun v => I v ∨ v = n) (k + 1) (inp ++ [2 * n]) := by
  obtain ⟨l, h1, h2, h3⟩ := h
  have last : (inp ++ [2 * n]).getD k 0 = 2 * n := by rw [← l]; exact app_last
  have old : ∀ j, j < k → (inp ++ [2 * n]).getD j 0 = inp.getD j 0 := fun j hj => app_lt (by omega)
  refine ⟨by simp [l], fun v hv => ?_, fun j hj => ?_, fun j j' hj hj' => ?_⟩
  · rcases hv with hv | hv
    · obtain ⟨j, hj, e⟩ := h1 v hv
      exact ⟨j, by omega, by rw [old j hj]; exact e⟩
    · exact ⟨k, by omega, by rw [last, hv]; omega⟩
  · by_cases e : j < k
    · rw [old j e]
      exact ⟨.inl (h2 j e).1, by have := (h2 j e).2; omega⟩
    · have e' : j = k := by omega
      rw [e', last]
      exact ⟨.inr (by omega), by omega⟩
  · by_cases e : j' < k
    · rw [old j (by omega), old j' e]; exact h3 j j' hj e
    · have e' : j' = k := by omega
      rw [e', last, old j (by omega)]
      have := (h2 j (by omega)).2
      omega
/-- What holds, of so many inputs. -/
def HolInv (inp : List Nat) (i : Nat) (hol : List Nat) : Prop := hol.length = i ∧ ∀ j, j < i → hol.getD j 0 / 2 = inp.getD j 0 / 2
theorem HolInv.zero (inp : List Nat) : HolInv inp 0 [] := ⟨rfl, fun j h => by omega⟩
theorem HolInv.push {inp : List Nat} {i : Nat} {hol : List Nat} (h : HolInv inp i hol) {x : Nat} (hx : x / 2 = inp.getD i 0 / 2) : HolInv inp (i + 1) (hol ++ [x]) := ⟨by simp [h.1], fun j hj => by
  by_cases e : j < i
  · rw [app_lt (by rw [h.1]; exact e)]; exact h.2 j e
  · have e' : j = hol.length := by have := h.1; omega
    have e2 : j = i := by have := h.1; omega
    rw [e', app_last, hx, ← e', e2]⟩
theorem hold_t {n : Nat} {I : Nat → Prop} {k : Nat} {inp hol : List Nat} (h : InpInv n I k inp) (hh : HolInv inp k hol) : ∃ t : Nat → Bool, (∀ v, I v → ∃ x, x ∈ hol ∧ x / 2 = v) ∧ ∀ x, x ∈ hol → I (x / 2) ∧ t (x / 2) = !decide (x % 2 = 1) := by
  have uniq : ∀ x y, x ∈ hol → y ∈ hol → x / 2 = y / 2 → x = y := fun x y hx hy e => by
    obtain ⟨j, hj, rfl⟩ := memg hx
    obtain ⟨j', hj', rfl⟩ := memg hy
    have a := hh.2 j (by rw [← hh.1]; exact hj)
    have b := hh.2 j' (by rw [← hh.1]; exact hj')
    have l := hh.1
    rcases Nat.lt_trichotomy j j' with q | q | q
    · have := h.2.2.2 j j' q (by omega); omega
    · rw [q]
    · have := h.2.2.2 j' j q (by omega); omega
  refine ⟨fun v => (hol.find? (fun z => decide (z / 2 = v))).any (fun z => !decide (z % 2 = 1)), fun v hv => ?_, fun x hx => ⟨?_, ?_⟩⟩
  · obtain ⟨j, hj, e⟩ := h.2.1 v hv
    exact ⟨hol.getD j 0, gmem (by rw [hh.1]; exact hj), by rw [hh.2 j hj]; exact e⟩
  · obtain ⟨j, hj, rfl⟩ := memg hx
    rw [hh.2 j (by rw [← hh.1]; exact hj)]
    exact (h.2.2.1 j (by rw [← hh.1]; exact hj)).1
  · cases hf : hol.find? (fun z => decide (z / 2 = x / 2)) with
    | none =>
      rw [List.find?_eq_none] at hf
      have := hf x hx
      simp at this
    | some y =>
      have hy := List.mem_of_find?_eq_some hf
      have hp := List.find?_some hf
      have e := uniq y x hy hx (of_decide_eq_true hp)
      subst e
      show (List.find? (fun z => decide (z / 2 = y / 2)) hol).any _ = _
      rw [hf]
      rfl
theorem Own.rdS {w : World} {base e sz n : Nat} {A : Option Addr} {cp : Nat} {cells : List Value} (h : Own w base e sz (.slice A n cp) n cells) : RdW w sz n A cells := by
  obtain ⟨A', c', e, hr⟩ := h.rd
  injection e with e1 e2 e3
  subst e1; exact hr
theorem ArgOk.inp {n : Nat} {cs : List (List Nat)} {x : Nat} {d0 d1 d2 d3 : Int} (hx : x / 2 < n) (h : d0 = 0) : ArgOk n cs x (d0, d1, d2, d3) := ⟨hx, fun e => by have : d0 = 6 := e; omega, fun e => by have : 0 < d0 := e; omega⟩
theorem ArgOk.top {n : Nat} {cs : List (List Nat)} {d0 d1 d2 d3 : Int} (hn : 0 < n) (h : d0 = 6) : ArgOk n cs 0 (d0, d1, d2, d3) := ⟨by omega, fun _ => rfl, fun _ e => by have : d0 < 6 := e; omega⟩
theorem ArgOk.gate {n n' : Nat} {cs cs' : List (List Nat)} {x : Nat} {d0 d1 d2 d3 : Int} (hr : GR n cs n' cs' x (fun be => saysF d0 (litV be d1) (litV be d2) (litV be d3))) (h : d0 < 6) (h1 : litF n' d1) (h2 : litF n' d2) (h3 : litF n' d3) : ArgOk n' cs' x (d0, d1, d2, d3) :=
  ⟨hr.2.2.1, fun e => by have : d0 = 6 := e; omega, fun _ _ => ⟨⟨h1, h2, h3⟩, hr.2.2.2⟩⟩
theorem tmod7 (x : Int) : -7 < x.tmod 7 ∧ x.tmod 7 < 7 := by
  constructor
  · have := Int.lt_tmod_of_pos x (show (0 : Int) < 7 by omega); omega
  · exact Int.tmod_lt_of_pos x (by omega)
end Go.Proofs.YtnlecdpiccgdpaaV
