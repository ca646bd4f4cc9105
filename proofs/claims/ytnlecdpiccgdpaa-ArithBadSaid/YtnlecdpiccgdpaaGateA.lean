/- Gates as clauses: plain laws. -/
import Derived.Test.YtnlecdpiccgdpaaRunP
set_option linter.unusedVariables false
set_option linter.unusedSimpArgs false
namespace Go.Proofs.YtnlecdpiccgdpaaV
open Go Go.RowKit Go.Proofs
/-- All clauses are true. -/
def Mod (cs : List (List Nat)) (b : Nat → Bool) : Prop := ∀ c, c ∈ cs → True_ b c
theorem Mod.sub {cs cs' : List (List Nat)} {b : Nat → Bool} (h : Mod cs' b) (hs : ∀ c, c ∈ cs → c ∈ cs') : Mod cs b := fun c hc => h c (hs c hc)
theorem lt_nt (b : Nat → Bool) (x : Nat) : lt_ b (GateP.nt x) = !lt_ b x := by
  have h2 : GateP.nt x / 2 = x / 2 := by unfold GateP.nt; split <;> omega
  have h3 : decide (GateP.nt x % 2 = 1) = !decide (x % 2 = 1) := by
    unfold GateP.nt
    rcases (show x % 2 = 0 ∨ x % 2 = 1 by omega) with h | h <;> simp [h] <;> omega
  unfold lt_
  rw [h2, h3]
  cases b (x / 2) <;> cases decide (x % 2 = 1) <;> rfl
theorem nt_div (x : Nat) : GateP.nt x / 2 = x / 2 := by unfold GateP.nt; split <;> omega
theorem nt_ne (x : Nat) : GateP.nt x ≠ x := by unfold GateP.nt; split <;> omega
/-- What a gate of a kind says. -/
def gv (k : Nat) (a b c : Bool) : Bool := if k = 0 then a && b else if k = 1 then a != b else (a && b) || (!a && c)
/-- A gate's clauses. -/
def gcl (k a b c x : Nat) : List (List Nat) :=
  if k = 0 then [[GateP.nt x, a], [GateP.nt x, b], [x, GateP.nt a, GateP.nt b]]
  else if k = 1 then [[GateP.nt x, a, b], [GateP.nt x, GateP.nt a, GateP.nt b], [x, GateP.nt a, b], [x, a, GateP.nt b]]
  else [[GateP.nt a, GateP.nt b, x], [GateP.nt a, b, GateP.nt x], [a, GateP.nt c, x], [a, c, GateP.nt x], [GateP.nt b, GateP.nt c, x], [b, c, GateP.nt x]]
theorem gcl_len (k a b c x : Nat) : (gcl k a b c x).length ≤ 6 := by
  unfold gcl; split
  · simp
  · split <;> simp
theorem True2 {b : Nat → Bool} {x y : Nat} : True_ b [x, y] ↔ lt_ b x = true ∨ lt_ b y = true := by simp [True_]
theorem True3 {b : Nat → Bool} {x y z : Nat} : True_ b [x, y, z] ↔ lt_ b x = true ∨ lt_ b y = true ∨ lt_ b z = true := by simp [True_]
theorem gv_of {k a b c x : Nat} {be : Nat → Bool} : Mod (gcl k a b c x) be ↔ lt_ be x = gv k (lt_ be a) (lt_ be b) (lt_ be c) := by
  unfold gcl gv Mod
  split
  · simp only [List.mem_cons, List.not_mem_nil, or_false, forall_eq_or_imp, forall_eq, True2, True3, lt_nt]
    cases lt_ be x <;> cases lt_ be a <;> cases lt_ be b <;> simp
  · split
    · simp only [List.mem_cons, List.not_mem_nil, or_false, forall_eq_or_imp, forall_eq, True2, True3, lt_nt]
      cases lt_ be x <;> cases lt_ be a <;> cases lt_ be b <;> simp
    · simp only [List.mem_cons, List.not_mem_nil, or_false, forall_eq_or_imp, forall_eq, True2, True3, lt_nt]
      cases lt_ be x <;> cases lt_ be a <;> cases lt_ be b <;> cases lt_ be c <;> simp
/-- A clause of which all but the literals of one variable are known, and of these there is but one: it has another that holds. -/
theorem Settled.other {kn tr : List Bool} {c : List Nat} {x : Nat} (h : Settled kn tr c) (hx : ¬ Kn kn x) (ho : ∀ y, y ∈ c → y = x ∨ Kn kn y) : ∃ y, y ∈ c ∧ y ≠ x ∧ lt_ (fun v => tr.getD v false) y = true := by
  rcases h with ⟨y, h1, h2, h3⟩ | ⟨y, z, h1, h2, h3, h4, h5⟩
  · refine ⟨y, h1, fun e => hx (e ▸ h2), ?_⟩
    have : Cons (fun v => tr.getD v false) kn tr := fun v _ => rfl
    rw [← this.is h2]; exact h3
  · have e1 := (ho y h1).resolve_right h3
    have e2 := (ho z h2).resolve_right h4
    exact absurd (e1.trans e2.symm) h5
theorem Kn_nt {kn : List Bool} {x : Nat} : Kn kn (GateP.nt x) ↔ Kn kn x := by unfold Kn; rw [nt_div]
theorem oth2 {kn tr : List Bool} {x a : Nat} (hx : ¬ Kn kn x) (ha : Kn kn a) (h : Settled kn tr [x, a]) : lt_ (fun v => tr.getD v false) a = true := by
  obtain ⟨y, h1, h2, h3⟩ := h.other hx (fun y hy => by simp only [List.mem_cons, List.not_mem_nil, or_false] at hy; rcases hy with e | e <;> subst e; exact .inl rfl; exact .inr ha)
  simp only [List.mem_cons, List.not_mem_nil, or_false] at h1
  rcases h1 with e | e <;> subst e
  · exact absurd rfl h2
  · exact h3
theorem oth3 {kn tr : List Bool} {x a b : Nat} (hx : ¬ Kn kn x) (ha : Kn kn a) (hb : Kn kn b) {c : List Nat} (hc : c = [x, a, b] ∨ c = [a, b, x]) (h : Settled kn tr c) : lt_ (fun v => tr.getD v false) a = true ∨ lt_ (fun v => tr.getD v false) b = true := by
  have hm : ∀ y, y ∈ c ↔ y = x ∨ y = a ∨ y = b := fun y => by
    rcases hc with e | e <;> subst e <;> simp only [List.mem_cons, List.not_mem_nil, or_false]
    constructor <;> (intro h; rcases h with h | h | h <;> simp [h])
  obtain ⟨y, h1, h2, h3⟩ := h.other hx (fun y hy => by rcases (hm y).1 hy with e | e | e <;> subst e; exact .inl rfl; exact .inr ha; exact .inr hb)
  rcases (hm y).1 h1 with e | e | e <;> subst e
  · exact absurd rfl h2
  · exact .inl h3
  · exact .inr h3
/-- A gate whose arguments are known is known, when nothing is left to do. -/
theorem gcl_known {k a b c x : Nat} {kn tr : List Bool} (ha : Kn kn a) (hb : Kn kn b) (hc : 2 ≤ k → Kn kn c) (h : ∀ d, d ∈ gcl k a b c x → Settled kn tr d) : Kn kn x := by
  by_cases hx : Kn kn x
  · exact hx
  exfalso
  have hnx : ¬ Kn kn (GateP.nt x) := fun e => hx (Kn_nt.1 e)
  have ha' := Kn_nt.2 ha
  have hb' := Kn_nt.2 hb
  unfold gcl at h
  split at h
  · simp only [List.mem_cons, List.not_mem_nil, or_false, forall_eq_or_imp, forall_eq] at h
    have q1 := oth2 hnx ha h.1
    have q2 := oth2 hnx hb h.2.1
    have q3 := oth3 hx ha' hb' (.inl rfl) h.2.2
    rw [lt_nt, lt_nt, q1, q2] at q3
    simp at q3
  · split at h
    · simp only [List.mem_cons, List.not_mem_nil, or_false, forall_eq_or_imp, forall_eq] at h
      have q1 := oth3 hnx ha hb (.inl rfl) h.1
      have q2 := oth3 hnx ha' hb' (.inl rfl) h.2.1
      have q3 := oth3 hx ha' hb (.inl rfl) h.2.2.1
      have q4 := oth3 hx ha hb' (.inl rfl) h.2.2.2
      simp only [lt_nt] at q1 q2 q3 q4
      revert q1 q2 q3 q4
      cases lt_ (fun v => tr.getD v false) a <;> cases lt_ (fun v => tr.getD v false) b <;> simp
    · have hc := hc (by omega)
      have hc' := Kn_nt.2 hc
      simp only [List.mem_cons, List.not_mem_nil, or_false, forall_eq_or_imp, forall_eq] at h
      have q1 := oth3 hx ha' hb' (.inr rfl) h.1
      have q2 := oth3 hnx ha' hb (.inr rfl) h.2.1
      have q3 := oth3 hx ha hc' (.inr rfl) h.2.2.1
      have q4 := oth3 hnx ha hc (.inr rfl) h.2.2.2.1
      have q5 := oth3 hx hb' hc' (.inr rfl) h.2.2.2.2.1
      have q6 := oth3 hnx hb hc (.inr rfl) h.2.2.2.2.2
      simp only [lt_nt] at q1 q2 q3 q4 q5 q6
      revert q1 q2 q3 q4 q5 q6
      cases lt_ (fun v => tr.getD v false) a <;> cases lt_ (fun v => tr.getD v false) b <;> cases lt_ (fun v => tr.getD v false) c <;> simp
/-- Gates: so many variables, these clauses, these inputs. -/
structure GI (n : Nat) (cs : List (List Nat)) (I : Nat → Prop) : Prop where
  fit : ∀ c, c ∈ cs → ∀ x, x ∈ c → x / 2 < n
  pos : 0 < n
  top : [0] ∈ cs
  len : cs.length ≤ 6 * n
  len3 : ∀ c, c ∈ cs → c.length ≤ 3
  ins : ∀ v, I v → v < n
  ex : ∀ t : Nat → Bool, ∃ b, (∀ v, I v → b v = t v) ∧ Mod cs b
  cpl : ∀ kn tr : List Bool, (∀ v, I v → kn.getD v false = true) → (∀ c, c ∈ cs → Settled kn tr c) → ∀ v, v < n → kn.getD v false = true
theorem lt_of {b b' : Nat → Bool} {x : Nat} (h : b (x / 2) = b' (x / 2)) : lt_ b x = lt_ b' x := by unfold lt_; rw [h]
theorem gcl_len3 (k a b c x : Nat) : ∀ d, d ∈ gcl k a b c x → d.length ≤ 3 := fun d hd => by
  unfold gcl at hd
  split at hd
  · simp only [List.mem_cons, List.not_mem_nil, or_false] at hd
    rcases hd with e | e | e <;> subst e <;> simp
  · split at hd
    · simp only [List.mem_cons, List.not_mem_nil, or_false] at hd
      rcases hd with e | e | e | e <;> subst e <;> simp
    · simp only [List.mem_cons, List.not_mem_nil, or_false] at hd
      rcases hd with e | e | e | e | e | e <;> subst e <;> simp
theorem GI.zero : GI 1 [[0]] (fun _ => False) where
  fit := by simp
  len3 := by simp
  pos := by omega
  top := by simp
  len := by simp
  ins := fun v h => h.elim
  ex := fun t => ⟨fun _ => true, fun v h => h.elim, fun c hc => by simp at hc; subst hc; exact ⟨0, by simp, rfl⟩⟩
  cpl := fun kn tr _ h v hv => by
    have e : v = 0 := by omega
    subst e
    rcases h [0] (by simp) with ⟨y, h1, h2, h3⟩ | ⟨y, z, h1, h2, _, _, h5⟩
    · simp at h1; subst h1; exact h2
    · simp at h1 h2; omega
theorem GI.input {n : Nat} {cs : List (List Nat)} {I : Nat → Prop} (h : GI n cs I) : GI (n + 1) cs (fun v => I v ∨ v = n) where
  fit := fun c hc x hx => by have := h.fit c hc x hx; omega
  pos := by omega
  top := h.top
  len := by have := h.len; omega
  len3 := h.len3
  ins := fun v hv => by rcases hv with hv | hv; have := h.ins v hv; omega; omega
  ex := fun t => by
    obtain ⟨b, h1, h2⟩ := h.ex t
    refine ⟨fun v => if v = n then t n else b v, fun v hv => ?_, fun c hc => ?_⟩
    · rcases hv with hv | hv
      · have := h.ins v hv
        show (if v = n then _ else _) = _
        rw [if_neg (by omega)]; exact h1 v hv
      · subst hv; simp
    · obtain ⟨z, hz, hb⟩ := h2 c hc
      refine ⟨z, hz, ?_⟩
      rw [← hb]
      refine lt_of ?_
      have := h.fit c hc z hz
      show (if _ then _ else _) = _
      rw [if_neg (by omega)]
  cpl := fun kn tr hi hs v hv => by
    by_cases e : v = n
    · subst e; exact hi _ (.inr rfl)
    · exact h.cpl kn tr (fun v hv => hi v (.inl hv)) hs v (by omega)
theorem GI.gate {n : Nat} {cs : List (List Nat)} {I : Nat → Prop} (h : GI n cs I) {k a b c : Nat} (ha : a / 2 < n) (hb : b / 2 < n) (hc : c / 2 < n) : GI (n + 1) (cs ++ gcl k a b c (2 * n)) I where
  fit := fun d hd x hx => by
    rcases List.mem_append.1 hd with hd | hd
    · have := h.fit d hd x hx; omega
    · have e1 := nt_div a
      have e2 := nt_div b
      have e3 := nt_div c
      have e4 := nt_div (2 * n)
      have key : x = a ∨ x = b ∨ x = c ∨ x = 2 * n ∨ x = GateP.nt a ∨ x = GateP.nt b ∨ x = GateP.nt c ∨ x = GateP.nt (2 * n) := by
        unfold gcl at hd
        split at hd
        · simp only [List.mem_cons, List.not_mem_nil, or_false] at hd
          rcases hd with e | e | e <;> subst e <;> simp only [List.mem_cons, List.not_mem_nil, or_false] at hx
          · rcases hx with e | e <;> simp [e]
          · rcases hx with e | e <;> simp [e]
          · rcases hx with e | e | e <;> simp [e]
        · split at hd
          · simp only [List.mem_cons, List.not_mem_nil, or_false] at hd
            rcases hd with e | e | e | e <;> subst e <;> simp only [List.mem_cons, List.not_mem_nil, or_false] at hx <;> (rcases hx with e | e | e <;> simp [e])
          · simp only [List.mem_cons, List.not_mem_nil, or_false] at hd
            rcases hd with e | e | e | e | e | e <;> subst e <;> simp only [List.mem_cons, List.not_mem_nil, or_false] at hx <;> (rcases hx with e | e | e <;> simp [e])
      rcases key with e | e | e | e | e | e | e | e <;> rw [e] <;> omega
  pos := by omega
  top := List.mem_append.2 (.inl h.top)
  len := by have := h.len; have := gcl_len k a b c (2 * n); rw [List.length_append]; omega
  len3 := fun d hd => (List.mem_append.1 hd).elim (h.len3 d) (gcl_len3 k a b c (2 * n) d)
  ins := fun v hv => by have := h.ins v hv; omega
  ex := fun t => by
    obtain ⟨be, h1, h2⟩ := h.ex t
    let be' : Nat → Bool := fun v => if v = n then gv k (lt_ be a) (lt_ be b) (lt_ be c) else be v
    have old : ∀ x, x / 2 < n → lt_ be' x = lt_ be x := fun x hx => lt_of (by show (if _ then _ else _) = _; rw [if_neg (by omega)])
    refine ⟨be', fun v hv => ?_, fun d hd => ?_⟩
    · have := h.ins v hv
      show (if v = n then _ else _) = _
      rw [if_neg (by omega)]; exact h1 v hv
    · rcases List.mem_append.1 hd with hd | hd
      · obtain ⟨z, hz, hb⟩ := h2 d hd
        exact ⟨z, hz, by rw [old z (h.fit d hd z hz)]; exact hb⟩
      · refine gv_of.2 ?_ d hd
        rw [old a ha, old b hb, old c hc]
        unfold lt_
        rw [show 2 * n / 2 = n by omega, show decide (2 * n % 2 = 1) = false by simp]
        show (be' n != false) = _
        have : be' n = gv k (lt_ be a) (lt_ be b) (lt_ be c) := if_pos rfl
        rw [this]
        unfold lt_
        simp
  cpl := fun kn tr hi hs v hv => by
    have old : ∀ v, v < n → kn.getD v false = true := h.cpl kn tr hi (fun d hd => hs d (List.mem_append.2 (.inl hd)))
    by_cases e : v = n
    · subst e
      have := gcl_known (kn := kn) (tr := tr) (x := 2 * v) (old _ ha) (old _ hb) (fun _ => old _ hc) (fun d hd => hs d (List.mem_append.2 (.inr hd)))
      unfold Kn at this
      rwa [show 2 * v / 2 = v by omega] at this
    · exact old v (by omega)
theorem GI.t0 {n : Nat} {cs : List (List Nat)} {I : Nat → Prop} (h : GI n cs I) {b : Nat → Bool} (hb : Mod cs b) : lt_ b 0 = true := by
  obtain ⟨z, hz, e⟩ := hb _ h.top
  simp at hz; subst hz; exact e
/-- A gate that has been made: what its literal is. -/
def MkI (n : Nat) (cs : List (List Nat)) (k a b c x : Nat) : Prop := x / 2 < n ∧ ∀ be, Mod cs be → lt_ be x = gv k (lt_ be a) (lt_ be b) (lt_ be c)
theorem MkI.mono {n n' : Nat} {cs cs' : List (List Nat)} {k a b c x : Nat} (h : MkI n cs k a b c x) (hn : n ≤ n') (hs : ∀ c, c ∈ cs → c ∈ cs') : MkI n' cs' k a b c x := ⟨by have := h.1; omega, fun be hb => h.2 be (hb.sub hs)⟩
theorem MkI.new (n : Nat) (cs : List (List Nat)) (k a b c : Nat) : MkI (n + 1) (cs ++ gcl k a b c (2 * n)) k a b c (2 * n) := ⟨by omega, fun be hb => gv_of.1 (hb.sub (fun c hc => List.mem_append.2 (.inr hc)))⟩
/-- What a call has made of the gates: more of them, a literal, and what it says. -/
def GR (n : Nat) (cs : List (List Nat)) (n' : Nat) (cs' : List (List Nat)) (x : Nat) (f : (Nat → Bool) → Bool) : Prop := n ≤ n' ∧ (∀ c, c ∈ cs → c ∈ cs') ∧ x / 2 < n' ∧ ∀ be, Mod cs' be → lt_ be x = f be
end Go.Proofs.YtnlecdpiccgdpaaV
