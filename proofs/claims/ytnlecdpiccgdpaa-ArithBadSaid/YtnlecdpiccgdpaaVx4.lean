/- The calculus' words for objects: arrays of numbers read and written at a place; appends that tell where the row lies; slices cut. -/
import Derived.Test.YtnlecdpiccgdpaaVx3
import Derived.Maps.AppendAt
set_option linter.unusedVariables false
set_option linter.unusedSimpArgs false
namespace Go.Proofs.YtnlecdpiccgdpaaV
open Go Go.RowKit

def nats (l : List Nat) : List Value := l.map fun (x : Nat) => Value.int .i64 ((x : Nat) : Int)
theorem nats_length (l : List Nat) : (nats l).length = l.length := by simp [nats]
theorem nats_append (l m : List Nat) : nats (l ++ m) = nats l ++ nats m := by simp [nats]
theorem nats_atP {l : List Nat} {sp : List Value} {i : Nat} (h : i < l.length) : (nats l ++ sp)[i]? = some (.int .i64 ((l.getD i 0 : Nat) : Int)) := by
  rw [List.getElem?_append_left (by rw [nats_length]; exact h)]
  simp [nats, List.getElem?_eq_getElem h, List.getD_eq_getElem?_getD]
theorem nats_at {l : List Nat} {i : Nat} (h : i < l.length) : (nats l)[i]? = some (.int .i64 ((l.getD i 0 : Nat) : Int)) := by
  simp [nats, List.getElem?_eq_getElem h, List.getD_eq_getElem?_getD]
theorem nats_setP {l : List Nat} {sp : List Value} {i : Nat} (x : Nat) (h : i < l.length) : (nats l ++ sp).set i (.int .i64 (x : Int)) = nats (l.set i x) ++ sp := by
  rw [List.set_append_left _ _ (by rw [nats_length]; exact h)]
  simp [nats, List.map_set]
theorem ints_set (k : IntKind) (l : List Int) (i : Nat) (x : Int) : (ints k l).set i (.int k x) = ints k (l.set i x) := by simp [ints, List.map_set]
theorem boolsV_set (l : List Bool) (i : Nat) (x : Bool) : (boolsV l).set i (.bool x) = boolsV (l.set i x) := by simp [boolsV, List.map_set]
theorem getD_lt {l : List Nat} {n : Nat} (h : ∀ x, x ∈ l → x < n) {i : Nat} (hi : i < l.length) : l.getD i 0 < n := by
  rw [List.getD_eq_getElem?_getD, List.getElem?_eq_getElem hi]
  exact h _ (List.getElem_mem hi)
theorem nats_of_cat {l : List Nat} {sp : List Value} : nats l ++ sp = nats l ++ sp := rfl
section
variable {P : Program} {ρ : Env} {w : World} {J : Env → World → Prop}
theorem R_index0 {d : Option Tmp} {t : TypeId} {x y : Operand} {ty : TypeId} {pos : String} {af : Array Edge} {g : Option (Nat × Bool)} {b len cap : Nat} {k : IntKind} {i : Int} {e : TypeId} (j : Nat) (hx : evR ρ x = .slice (some ⟨b, 0, none⟩) len cap) (hy : evR ρ y = .int k i)
    (ht : pureR P (underlying t) = some (.slice e)) (hz : pureR P (sizeOf e) = some 1) (hj : i = (j : Int)) (h1 : j < len) :
    (execOp (evR ρ) ⟨d, .indexAddr t x y, ty, pos, af, g⟩).run P w = .ok (.value (.pointer (some ⟨b, j, none⟩))) w := by
  subst hj
  have := R_index (P := P) (w := w) (d := d) (ty := ty) (pos := pos) (af := af) (g := g) hx hy ht hz (by omega) (by omega)
  rw [Nat.mul_one, Nat.zero_add] at this
  exact this
/-- x[:h]. -/
theorem R_slice_h {d : Option Tmp} {t : TypeId} {x y : Operand} {ty : TypeId} {pos : String} {af : Array Edge} {g : Option (Nat × Bool)} {b len cap : Nat} {k : IntKind} {i : Int} {e : TypeId} (j : Nat) (hx : evR ρ x = .slice (some ⟨b, 0, none⟩) len cap) (hy : evR ρ y = .int k i)
    (ht : pureR P (underlying t) = some (.slice e)) (hz : pureR P (sizeOf e) = some 1) (hj : i = (j : Int)) (h1 : j ≤ cap) :
    (execOp (evR ρ) ⟨d, .slice t x none (some y) none, ty, pos, af, g⟩).run P w = .ok (.value (.slice (some ⟨b, 0, none⟩) j cap)) w := by
  subst hj
  have h2 := pureR_run (w := w) ht
  have h3 := pureR_run (w := w) hz
  have e1 : ¬ ((j : Int) < 0) := by omega
  simp only [execOp, hx, hy, Option.map_some, Option.map_none, Instr.sliceAt, Instr.slice, Instr.sliceBounds]
  simp [h2, h3, Instr.sliceBound, asIntOf, h1, e1, add_at]
/-- append(v, x..), and where the row lies then. -/
theorem S_append_at {d : Option Tmp} {x y : Operand} {ty : TypeId} {pos : String} {af : Array Edge} {g : Option (Nat × Bool)} (t e : TypeId) (z : Value) (by_ : Nat) {n m : Nat} {v : Value} {cells news : List Value} {b off c : Nat}
    (hi : (P.info? e).map (fun i => (i.zero, i.size, i.bytes)) = some (some z, 1, by_)) (hzs : z.cells.size = 1) (ht : pureR P (underlying t) = some (.slice e))
    (hx : evR ρ x = v) (hy : evR ρ y = .slice (some ⟨b, off, none⟩) m c) (hown : Own w 0 e 1 v n cells)
    (hl : news.length = m) (hnews : ∀ k u, news[k]? = some u → w.cell? ⟨b, off + k, none⟩ = some u) (h1 : ∀ u ∈ news, oneV u = true)
    (h63 : n + m ≤ maxLen) (hbytes : (n + m) * by_ ≤ 140737488355328) (h0 : 0 < n + m)
    (h : ∀ g cp sp w1, Blk w1 g e (cells ++ news ++ sp) → (cells ++ news ++ sp).length = cp → n + m ≤ cp → cp ≤ maxLen → (v.ownBlock = some g ∨ g = w.heap.size) → Tch (ownS v) w w1 → J (updO ρ d (.slice (some ⟨g, 0, none⟩) (n + m) cp)) w1) :
    Step P ⟨d, .call { callee := .builtin .append, args := #[x, y], argTypes := #[t, t] }, ty, pos, af, g⟩ ρ w J := by
  obtain ⟨i, hi1, hi2, hi3, hi4⟩ := info_of hi
  have ht' : P.underlying t = some (.slice e) := by
    have := pureR_run (w := w) ht
    simp only [underlying] at this
    cases hu : P.underlying t with
    | none => simp [hu] at this
    | some u => simp [hu] at this; rw [this]
  obtain ⟨v', w', hr, ho, hg, _, hwh⟩ := run_append_own_at (P := P) (w := w) 0 t ty e i z 1 by_ ht' hi1 hi2 hi3 hi4 hzs (by omega) v n cells hown ⟨b, off, none⟩ m c news (by omega) (fun k u hu => by rw [add_at]; exact hnews k u hu) (fun u hu => oneV_oneCell (h1 u hu)) h63 hbytes (by omega)
  obtain ⟨hl', hc⟩ := ho
  rcases hc with ⟨_, hc⟩ | ⟨g', cap, cur, rfl, _, hgb, hn, hcap, hsz, htk⟩
  · omega
  · have e1 : cur.toList = cells ++ news ++ cur.toList.drop (n + m) := by
      rw [← htk]; simp
    refine S_val (v := .slice (some ⟨g', 0, none⟩) (n + m) cap) (w' := w') ?_ (h g' cap (cur.toList.drop (n + m)) w' ?_ ?_ hn hcap ?_ (Tch.of_grown hg))
    · simp only [execOp, resolve, invoke, builtin, Array.map, hx, hy]
      simp [hx, hy, hr]
    · unfold Blk; rw [← e1]; simpa using hgb
    · rw [← e1]; simpa using hsz
    · rcases hwh with h' | h'
      · exact .inl h'.symm
      · exact .inr (by injection h')
end
theorem Own.blk1 {w : World} {base e n : Nat} {A : Option Addr} {cp : Nat} {cells : List Value} (h : Own w base e 1 (.slice A n cp) n cells) (h0 : 0 < n) :
    ∃ g sp, A = some ⟨g, 0, none⟩ ∧ Blk w g e (cells ++ sp) ∧ (cells ++ sp).length = cp ∧ n ≤ cp ∧ cp ≤ maxLen := by
  obtain ⟨hl, hc⟩ := h
  rcases hc with ⟨_, rfl⟩ | ⟨g, cap, cur, hv, _, hgb, hn, hcap, hsz, htk⟩
  · omega
  · injection hv with h1 h2 h3
    subst h1 h3
    have e1 : cur.toList = cells ++ cur.toList.drop n := by
      rw [← htk]; simp
    refine ⟨g, cur.toList.drop n, rfl, ?_, ?_, hn, hcap⟩
    · unfold Blk; rw [← e1]; simpa using hgb
    · rw [← e1]; simpa using hsz
theorem Blk.own1 {w : World} {g e n cp : Nat} {cells sp : List Value} (h : Blk w g e (cells ++ sp)) (hl : cells.length = n) (hs : (cells ++ sp).length = cp) (hn : n ≤ cp) (hcp : cp ≤ maxLen) : Own w 0 e 1 (.slice (some ⟨g, 0, none⟩) n cp) n cells :=
  ⟨by omega, .inr ⟨g, cp, (cells ++ sp).toArray, rfl, by omega, h, hn, hcp, by simpa using hs, by simp [← hl]⟩⟩

/-! ### Results that lie in cells -/
section
variable {P : Program} {fn : Func} {ρ : Env} {w : World}
theorem asAddr_run (a : Addr) : (asAddr (.pointer (some a))).run P w = .ok a w := rfl
theorem run_loadVarA {t : TypeId} {b j : Nat} (cs : List Value) (ha : pureR P (isAgg t) = some true) (hz : pureR P (sizeOf t) = some cs.length) (hc : ∀ k u, cs[k]? = some u → w.cell? ⟨b, j + k, none⟩ = some u) :
    (loadVar t ⟨b, j, none⟩).run P w = .ok (.agg cs.toArray) w := by
  have h1 := pureR_run (w := w) ha
  have h2 := pureR_run (w := w) hz
  have h3 := run_loadCellsFrom (P := P) (w := w) b cs 0 j #[] (fun k u hk => by rw [Nat.add_zero]; exact hc k u hk)
  simp only [loadVar]
  simp [h1, h2, loadCells, h3]
theorem blk_part {b e : Nat} {cs : List Value} (hb : Blk w b e cs) : ∀ k u, cs[k]? = some u → w.cell? ⟨b, 0 + k, none⟩ = some u := fun k u hk => by rw [Nat.zero_add, hb.cell]; exact hk
theorem Fr_getD {n : Nat} {t : Nat} (h : Nat.blt t n = true) : (Fr n ρ).tmps[t]?.getD undef = ρ t := by
  rw [Fr_get, if_pos (by simpa [Nat.blt_eq] using h)]; rfl
theorem Res_cell {p : Tmp} {ty : TypeId} {b : Nat} {e : TypeId} {cs : List Value} (h : fn.results = #[.cell p ty]) (hp : Nat.blt p fn.ntmps = true) (hx : ρ p = .pointer (some ⟨b, 0, none⟩)) (hb : Blk w b e cs) (ha : pureR P (isAgg ty) = some true) (hz : pureR P (sizeOf ty) = some cs.length) :
    Res P fn ρ w (.agg cs.toArray) := by
  unfold Res results
  have h3 := run_loadVarA (P := P) (w := w) (b := b) (j := 0) cs ha hz (blk_part hb)
  simp [h, Fr_getD hp, hx, asAddr_run, h3]
theorem Res_cell1 {p u : Tmp} {ty : TypeId} {b : Nat} {e : TypeId} {cs : List Value} (h : fn.results = #[.cell p ty, .tmp u]) (hp : Nat.blt p fn.ntmps = true) (hu : Nat.blt u fn.ntmps = true) (hx : ρ p = .pointer (some ⟨b, 0, none⟩)) (hb : Blk w b e cs) (ha : pureR P (isAgg ty) = some true) (hz : pureR P (sizeOf ty) = some cs.length) :
    Res P fn ρ w (.tuple #[.agg cs.toArray, ρ u]) := by
  unfold Res results
  have h3 := run_loadVarA (P := P) (w := w) (b := b) (j := 0) cs ha hz (blk_part hb)
  simp [h, Fr_getD hp, Fr_getD hu, hx, asAddr_run, h3]
theorem Res_cell2 {p u v : Tmp} {ty : TypeId} {b : Nat} {e : TypeId} {cs : List Value} (h : fn.results = #[.cell p ty, .tmp u, .tmp v]) (hp : Nat.blt p fn.ntmps = true) (hu : Nat.blt u fn.ntmps = true) (hv : Nat.blt v fn.ntmps = true) (hx : ρ p = .pointer (some ⟨b, 0, none⟩)) (hb : Blk w b e cs) (ha : pureR P (isAgg ty) = some true) (hz : pureR P (sizeOf ty) = some cs.length) :
    Res P fn ρ w (.tuple #[.agg cs.toArray, ρ u, ρ v]) := by
  unfold Res results
  have h3 := run_loadVarA (P := P) (w := w) (b := b) (j := 0) cs ha hz (blk_part hb)
  simp [h, Fr_getD hp, Fr_getD hu, Fr_getD hv, hx, asAddr_run, h3]
end

/-! ### Slices that only read: the pointer to a place -/
theorem ints_atP {l : List Int} {sp : List Value} {i : Nat} (h : i < l.length) : (ints .i64 l ++ sp)[i]? = some (.int .i64 (l.getD i 0)) := by
  rw [List.getElem?_append_left (by rw [ints_length]; exact h)]; exact ints_at .i64 l h
theorem boolsV_atP {l : List Bool} {sp : List Value} {i : Nat} (h : i < l.length) : (boolsV l ++ sp)[i]? = some (.bool (l.getD i false)) := by
  rw [List.getElem?_append_left (by rw [boolsV_length]; exact h)]; exact boolsV_at l h
theorem ints_setP {l : List Int} {sp : List Value} {i : Nat} (x : Int) (h : i < l.length) : (ints .i64 l ++ sp).set i (.int .i64 x) = ints .i64 (l.set i x) ++ sp := by
  rw [List.set_append_left _ _ (by rw [ints_length]; exact h), ints_set]
theorem boolsV_setP {l : List Bool} {sp : List Value} {i : Nat} (x : Bool) (h : i < l.length) : (boolsV l ++ sp).set i (.bool x) = boolsV (l.set i x) ++ sp := by
  rw [List.set_append_left _ _ (by rw [boolsV_length]; exact h), boolsV_set]
theorem ints_one (k : IntKind) (l : List Int) : ∀ u ∈ ints k l, oneV u = true := by
  intro u hu
  simp only [ints, List.mem_map] at hu
  obtain ⟨x, _, rfl⟩ := hu
  rfl
theorem boolsV_one (l : List Bool) : ∀ u ∈ boolsV l, oneV u = true := by
  intro u hu
  simp only [boolsV, List.mem_map] at hu
  obtain ⟨x, _, rfl⟩ := hu
  rfl
def ptrAt (A : Option Addr) (j : Nat) : Value := match A with
  | some ⟨b, off, none⟩ => .pointer (some ⟨b, off + j, none⟩)
  | _ => .pointer none
theorem RdW.some_ {w : World} {sz n : Nat} {A : Option Addr} {cells : List Value} (h : RdW w sz n A cells) (hn : 0 < n) : ∃ b off, A = some ⟨b, off, none⟩ := by
  obtain ⟨b, off, e, _⟩ := h.2.2 hn; exact ⟨b, off, e⟩
theorem Blk.rdP {w : World} {b : Nat} {t : TypeId} {l sp : List Value} (h : Blk w b t (l ++ sp)) (sz n : Nat) (hl : l.length = n * sz) (hn : n ≤ 9223372036854775807) : RdW w sz n (some ⟨b, 0, none⟩) l :=
  ⟨hl, hn, fun _ => ⟨b, 0, rfl, h.lt, fun k u hu => by
    rw [h.cell, Nat.zero_add]
    have hk : k < l.length := by
      rcases Nat.lt_or_ge k l.length with h' | h'
      · exact h'
      · rw [List.getElem?_eq_none h'] at hu; cases hu
    rw [List.getElem?_append_left hk]; exact hu⟩⟩
section
variable {P : Program} {ρ : Env} {w : World} {J : Env → World → Prop}
theorem R_indexRd {d : Option Tmp} {t : TypeId} {x y : Operand} {ty : TypeId} {pos : String} {af : Array Edge} {g : Option (Nat × Bool)} {A : Option Addr} {len cap sz : Nat} {k : IntKind} {i : Int} {e : TypeId} {w0 : World} {cells : List Value} (j : Nat) (hA : RdW w0 sz len A cells)
    (hx : evR ρ x = .slice A len cap) (hy : evR ρ y = .int k i) (ht : pureR P (underlying t) = some (.slice e)) (hz : pureR P (sizeOf e) = some sz) (hj : i = (j : Int)) (h1 : j < len) :
    (execOp (evR ρ) ⟨d, .indexAddr t x y, ty, pos, af, g⟩).run P w = .ok (.value (ptrAt A (j * sz))) w := by
  subst hj
  obtain ⟨b, off, rfl⟩ := hA.some_ (by omega)
  have := R_index (P := P) (w := w) (d := d) (ty := ty) (pos := pos) (af := af) (g := g) hx hy ht hz (by omega) (by omega)
  exact this
theorem R_indexRd1 {d : Option Tmp} {t : TypeId} {x y : Operand} {ty : TypeId} {pos : String} {af : Array Edge} {g : Option (Nat × Bool)} {A : Option Addr} {len cap : Nat} {k : IntKind} {i : Int} {e : TypeId} {w0 : World} {cells : List Value} (j : Nat) (hA : RdW w0 1 len A cells)
    (hx : evR ρ x = .slice A len cap) (hy : evR ρ y = .int k i) (ht : pureR P (underlying t) = some (.slice e)) (hz : pureR P (sizeOf e) = some 1) (hj : i = (j : Int)) (h1 : j < len) :
    (execOp (evR ρ) ⟨d, .indexAddr t x y, ty, pos, af, g⟩).run P w = .ok (.value (ptrAt A j)) w := by
  have := R_indexRd (P := P) (w := w) (d := d) (ty := ty) (pos := pos) (af := af) (g := g) j hA hx hy ht hz hj h1
  rw [Nat.mul_one] at this
  exact this
theorem R_fieldRd {d : Option Tmp} {t : TypeId} {x : Operand} {f m : Nat} {ty : TypeId} {pos : String} {af : Array Edge} {g : Option (Nat × Bool)} {A : Option Addr} {len sz j : Nat} {w0 : World} {cells : List Value} (hA : RdW w0 sz len A cells) (h0 : 0 < len)
    (hx : evR ρ x = ptrAt A j) (hf : ∀ b off, pureR P (execOp (fun _ => .pointer (some ⟨b, off, none⟩)) ⟨d, .fieldAddr t x f, ty, pos, af, g⟩) = some (.value (.pointer (some ⟨b, off + m, none⟩)))) :
    (execOp (evR ρ) ⟨d, .fieldAddr t x f, ty, pos, af, g⟩).run P w = .ok (.value (ptrAt A (j + m))) w := by
  obtain ⟨b, off, rfl⟩ := hA.some_ h0
  have h1 := pureR_run (w := w) (hf b (off + j))
  simp only [execOp] at h1 ⊢
  rw [hx]
  simp only [ptrAt, ← Nat.add_assoc]
  exact h1
theorem R_loadRd {d : Option Tmp} {t : TypeId} {x : Operand} {ty : TypeId} {pos : String} {af : Array Edge} {g : Option (Nat × Bool)} {A : Option Addr} {len sz j : Nat} {cells : List Value} {v : Value} (hA : RdW w sz len A cells) (h0 : 0 < len)
    (hx : evR ρ x = ptrAt A j) (ha : pureR P (isAgg t) = some false) (hc : cells[j]? = some v) : (execOp (evR ρ) ⟨d, .load t x, ty, pos, af, g⟩).run P w = .ok (.value v) w := by
  obtain ⟨b, off, rfl, _, h⟩ := hA.2.2 h0
  exact R_load hx ha (h j v hc)
theorem R_loadRdA {d : Option Tmp} {t : TypeId} {x : Operand} {ty : TypeId} {pos : String} {af : Array Edge} {g : Option (Nat × Bool)} {A : Option Addr} {len sz j : Nat} {cells : List Value} (cs : List Value) (hA : RdW w sz len A cells) (h0 : 0 < len)
    (hx : evR ρ x = ptrAt A j) (ha : pureR P (isAgg t) = some true) (hz : pureR P (sizeOf t) = some cs.length) (hc : ∀ k u, cs[k]? = some u → cells[j + k]? = some u) : (execOp (evR ρ) ⟨d, .load t x, ty, pos, af, g⟩).run P w = .ok (.value (.agg cs.toArray)) w := by
  obtain ⟨b, off, rfl, _, h⟩ := hA.2.2 h0
  exact R_loadA cs hx ha hz (fun k u hk => by rw [Nat.add_assoc]; exact h _ u (hc k u hk))
/-- append(nil, x..), which is not empty. -/
theorem S_append_nil {d : Option Tmp} {x y : Operand} {ty : TypeId} {pos : String} {af : Array Edge} {g : Option (Nat × Bool)} (t e : TypeId) (z : Value) (by_ : Nat) {m : Nat} {news : List Value} {A : Option Addr} {c : Nat}
    (hi : (P.info? e).map (fun i => (i.zero, i.size, i.bytes)) = some (some z, 1, by_)) (hzs : z.cells.size = 1) (ht : pureR P (underlying t) = some (.slice e))
    (hx : evR ρ x = .slice none 0 0) (hy : evR ρ y = .slice A m c) (hA : RdW w 1 m A news) (h1 : ∀ u ∈ news, oneV u = true)
    (h63 : m ≤ maxLen) (hbytes : m * by_ ≤ 140737488355328) (h0 : 0 < m)
    (h : ∀ cp sp w1, Blk w1 w.heap.size e (news ++ sp) → Tch N0 w w1 → J (updO ρ d (.slice (some ⟨w.heap.size, 0, none⟩) m cp)) w1) :
    Step P ⟨d, .call { callee := .builtin .append, args := #[x, y], argTypes := #[t, t] }, ty, pos, af, g⟩ ρ w J := by
  obtain ⟨b, off, rfl, _, hc⟩ := hA.2.2 h0
  refine S_append_at t e z by_ (n := 0) (m := m) (v := .slice none 0 0) (cells := []) (news := news) (b := b) (off := off) (c := c) hi hzs ht hx hy (Own.nil_ _ _ _ _) (by have := hA.1; omega) hc h1 (by omega) (by rw [Nat.zero_add]; exact hbytes) (by omega) ?_
  intro g' cp sp w1 hb _ _ _ hg hT
  rw [Nat.zero_add]
  have hg' : g' = w.heap.size := by
    rcases hg with hg | hg
    · cases hg
    · exact hg
  subst hg'
  exact h cp sp w1 (by simpa using hb) (hT.weaken (fun _ _ e => by cases e))
end

/-! ### Three that may come up -/
section
variable {P : Program} {n : Nat} {ops : Array Oper} {N : Env → World → Prop} {S : World → Prop} {listed : Array Bool} {ρ : Env} {w : World}
theorem d_three (i j m : Nat) {o u x : Oper} (hr : Region.ready .any ops listed = [i, j, m]) (ho : ops[i]? = some o) (hu : ops[j]? = some u) (hx : ops[m]? = some x) (hw : wantedR ops ρ o = true) (hw2 : wantedR ops ρ u = true) (hw3 : wantedR ops ρ x = true)
    (h : Step P o ρ w (fun ρ' w' => S w' ∧ dAny P n ops N S (listed.setIfInBounds i true) ρ' w'))
    (h2 : Step P u ρ w (fun ρ' w' => S w' ∧ dAny P n ops N S (listed.setIfInBounds j true) ρ' w'))
    (h3 : Step P x ρ w (fun ρ' w' => S w' ∧ dAny P n ops N S (listed.setIfInBounds m true) ρ' w')) : dAny P n ops N S listed ρ w := fun hh => by
  have hui := ready_unlisted (ops := ops) (listed := listed) (i := i) (by rw [hr]; simp)
  have huj := ready_unlisted (ops := ops) (listed := listed) (i := j) (by rw [hr]; simp)
  have hum := ready_unlisted (ops := ops) (listed := listed) (i := m) (by rw [hr]; simp)
  have a := count_listed hui
  have b := count_listed huj
  have c := count_listed hum
  have e : (listed.setIfInBounds i true).toList.count false = (listed.setIfInBounds j true).toList.count false := by omega
  have e2 : (listed.setIfInBounds i true).toList.count false = (listed.setIfInBounds m true).toList.count false := by omega
  rw [count_listed hui]
  refine wpAnyH_all hr (by simp) fun k hk => ?_
  rcases List.mem_cons.1 hk with rfl | hk
  · exact d_step hh.1 hh.2 ho hui hw h
  · rcases List.mem_cons.1 hk with rfl | hk
    · rw [e]; exact d_step hh.1 hh.2 hu huj hw2 h2
    · obtain rfl : k = m := by simpa using hk
      rw [e2]; exact d_step hh.1 hh.2 hx hum hw3 h3
end
end Go.Proofs.YtnlecdpiccgdpaaV
