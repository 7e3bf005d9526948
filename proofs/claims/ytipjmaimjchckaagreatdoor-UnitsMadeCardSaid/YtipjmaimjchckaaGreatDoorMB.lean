/- THE OPERATIONS ARE RIGHT: values, memory. -/
import Derived.Test.YtipjmaimjchckaaGreatDoorMA
import Derived.Laws.IdiomStrings
import Derived.Great.BuildSlice
import Derived.Laws.RangeString
/-! THE OPERATIONS ARE RIGHT: values, memory. -/
set_option linter.unusedSimpArgs false
set_option linter.unusedVariables false
namespace Go.Proofs.YtipjmaimjchckaaGreatDoor
open Go.RowKit
namespace Ev
variable [Gh]
section
variable {w0 : World} {ρ : Env} {cx : Cx} {s : Hs} {w : World} {P : Program}

omit [Gh] in
theorem addr_add (b o n : Nat) : (⟨b, o, none⟩ : Addr).add n = ⟨b, o + n, none⟩ := by
  unfold Addr.add
  split
  · rename_i h; rw [h, Nat.add_zero]
  · rfl

omit [Gh] in
theorem cells_den (ρ : Env) (x : AV) : (den ρ x).cells.toList = (cellsOf x).map (den ρ) := by
  cases x with
  | v x =>
    cases x with
    | agg a =>
      show a.toList = (mapV a.toList).map (den ρ)
      rw [mapV_eq, List.map_map]
      simp only [Function.comp_def, den, List.map_id']
    | _ => rfl
  | agg l => show (denL ρ l).toArray.toList = l.map (den ρ); rw [denL_eq]
  | _ => rfl
theorem cells_sc {n : Nat} {x : AV} (h : Sc n x) : ScL n (cellsOf x) := by
  cases x with
  | v x =>
    cases x with
    | agg a => show ScL n (mapV a.toList); rw [mapV_eq, scL_iff]; intro y hy; obtain ⟨z, _, rfl⟩ := List.mem_map.1 hy; trivial
    | _ => exact ⟨trivial, trivial⟩
  | agg l => exact h
  | _ => exact ⟨h, trivial⟩
omit [Gh] in
theorem isOne_den {x : AV} (h : isOne x = true) (ρ : Env) : (den ρ x).oneCell' = true := by
  cases x with
  | v x => cases x <;> first | rfl | (cases h)
  | agg l => cases h
  | tup l => cases h
  | _ => rfl

theorem holds_cell {n b : Nat} {o : HO} {c : List AV} (h : o.Holds ρ n b w) (ho : o = .ro c ∨ o = .row c ∨ ∃ es, o = .rowU c es) :
    ScL n c ∧ ∀ i x, c[i]? = some x → w.cell? ⟨ρ.blk b, ρ.off b + i, none⟩ = some (den ρ x) := by
  rcases ho with rfl | rfl | ⟨es, rfl⟩
  · exact ⟨h.2.2, h.2.1⟩
  · obtain ⟨h0, c', el, fr, h1, _, h2, h3⟩ := h
    refine ⟨h3, fun i x hx => ?_⟩
    rw [h0, Nat.zero_add]
    have : c'[i]? = some (den ρ x) := by rw [← Array.getElem?_toList, h2, List.getElem?_map, hx]; rfl
    simp [World.cell?, h1, this]
  · obtain ⟨h0, _, c', el, fr, h1, _, _, ⟨rest, h2⟩, h3⟩ := h
    refine ⟨h3, fun i x hx => ?_⟩
    rw [h0, Nat.zero_add]
    have : c'[i]? = some (den ρ x) := by
      rw [← Array.getElem?_toList, h2, List.getElem?_append_left (by have := (List.getElem?_eq_some_iff.1 hx).1; simp; exact this), List.getElem?_map, hx]; rfl
    simp [World.cell?, h1, this]

/-- A part of cells, as a value. -/
theorem loadC_ok {agg : Bool} {size off : Nat} {c : List AV} {v : AV} (h : loadC agg size off c = some v) {n : Nat} (hs : ScL n c) :
    Sc n v ∧ (agg = true → den ρ v = .agg (((c.drop off).take size).map (den ρ)).toArray ∧ off + size ≤ c.length ∨ size = 0 ∧ v = .agg []) ∧ (agg = false → c[off]? = some v) := by
  rw [scL_iff] at hs
  cases agg with
  | true =>
    change ob (takeE size (dropN off c)) (fun l => some (.agg l)) = some v at h
    obtain ⟨l, h1, h2⟩ := ob_some.1 h
    cases h2
    rw [takeE_some, dropN_eq] at h1
    obtain ⟨h1, rfl⟩ := h1
    refine ⟨(scL_iff _ _).2 fun x hx => hs x (List.mem_of_mem_drop (List.mem_of_mem_take hx)), fun _ => ?_, fun h => (by cases h)⟩
    by_cases hz : size = 0
    · right; exact ⟨hz, by rw [hz]; rfl⟩
    · left; exact ⟨by simp only [den, denL_eq], by rw [List.length_drop] at h1; omega⟩
  | false =>
    change nth c off = some v at h
    rw [nth_eq] at h
    exact ⟨hs v (List.mem_of_getElem? h), fun h => (by cases h), fun _ => h⟩

theorem run_loadVar {t : TypeId} {i : TyI} (ht : TyOk P t i) {n b off : Nat} {o : HO} {c : List AV} {v : AV} (h : o.Holds ρ n b w) (ho : o = .ro c ∨ o = .row c ∨ ∃ es, o = .rowU c es)
    (hl : loadC i.agg i.size off c = some v) : (loadVar t ⟨ρ.blk b, ρ.off b + off, none⟩).run P w = .ok (den ρ v) w ∧ Sc n v := by
  obtain ⟨hs, hc⟩ := holds_cell h ho
  obtain ⟨h1, h2, h3⟩ := loadC_ok (ρ := ρ) hl hs
  refine ⟨?_, h1⟩
  unfold loadVar
  simp only [Sem.run_bind, ht.run_agg w, Result.andThen_ok]
  cases ha : i.agg with
  | true =>
    simp only [if_true, Sem.run_bind, ht.run_size w, Result.andThen_ok]
    rcases h2 ha with ⟨h4, h5⟩ | ⟨h4, h5⟩
    · have hlen : (((c.drop off).take i.size).map (den ρ)).length = i.size := by simp; omega
      have := run_loadCells_list (P := P) w ⟨ρ.blk b, ρ.off b + off, none⟩ (((c.drop off).take i.size).map (den ρ)) (fun j v hj => by
        rw [addr_add, Nat.add_assoc]
        rw [List.getElem?_map] at hj
        obtain ⟨x, hx, rfl⟩ := Option.map_eq_some_iff.1 hj
        have hj2 : j < i.size := by have := (List.getElem?_eq_some_iff.1 hx).1; simp at this; omega
        rw [List.getElem?_take_of_lt hj2, List.getElem?_drop] at hx
        exact hc _ _ hx)
      rw [hlen] at this
      simp only [this, Result.andThen_ok, h4, Sem.run_pure]
    · rw [h4, h5]
      rfl
  | false =>
    simp only [Bool.false_eq_true, if_false, run_load]
    rw [hc off v (h3 ha)]

omit [Gh] in
theorem set_over {α : Type} (L vs : List α) (v : α) (k : Nat) (h : k < L.length) :
    (L.set k v).take (k + 1) ++ vs ++ (L.set k v).drop (k + 1 + vs.length) = L.take k ++ (v :: vs) ++ L.drop (k + (v :: vs).length) := by
  rw [List.set_eq_take_append_cons_drop, if_pos h]
  have hl : (L.take k).length = k := by simp; omega
  have e1 : (L.take k ++ v :: L.drop (k + 1)).take (k + 1) = L.take k ++ [v] := by
    rw [List.take_append, hl, List.take_of_length_le (by omega), show k + 1 - k = 1 by omega]; rfl
  have e2 : (L.take k ++ v :: L.drop (k + 1)).drop (k + 1 + vs.length) = L.drop (k + (v :: vs).length) := by
    rw [List.drop_append, hl, List.drop_of_length_le (by omega), show k + 1 + vs.length - k = vs.length + 1 by omega, List.drop_succ_cons, List.drop_drop, List.nil_append, List.length_cons]
    congr 1; omega
  rw [e1, e2]
  simp
omit [Gh] in
/-- Cells are stored one behind the other. -/
theorem run_storeCells {r : Nat} {el : TypeId} {fr : Nat × Nat} : ∀ (vs : List Value) (off i : Nat) (c : Array Value) (w : World), w.heap[r]? = some (.cells c el fr) → (∀ i, i < c.size → ¬ (fr.1 ≤ i ∧ i < fr.2)) →
    (∀ v ∈ vs, v.oneCell' = true) → off + i + vs.length ≤ c.size →
    ∃ w' c', (storeCells ⟨r, off, none⟩ vs i).run P w = .ok () w' ∧ OneBlock r w w' ∧ w'.heap[r]? = some (.cells c' el fr) ∧ c'.size = c.size ∧ c'.toList = c.toList.take (off + i) ++ vs ++ c.toList.drop (off + i + vs.length) := by
  intro vs
  induction vs with
  | nil =>
    intro off i c w h _ _ hl
    exact ⟨w, c, rfl, ⟨rfl, rfl, rfl, rfl, fun _ _ => rfl⟩, h, rfl, by simp⟩
  | cons v vs ih =>
    intro off i c w h hfr hone hl
    simp only [List.length_cons] at hl
    have hlt : off + i < c.size := by omega
    have hcell : w.cell? ⟨r, off + i, none⟩ = some c[off + i] := by simp [World.cell?, h, hlt]
    have hfz : w.frozen? ⟨r, off + i, none⟩ = false := by
      have := hfr (off + i) hlt
      simp only [World.frozen?, h]
      rw [Bool.and_eq_false_iff]
      by_cases h1 : fr.1 ≤ off + i
      · right; simp; omega
      · left; simp; omega
    have hset : (w.setCell ⟨r, off + i, none⟩ v).heap[r]? = some (.cells (c.setIfInBounds (off + i) v) el fr) := by
      simp [World.setCell, Array.getElem?_modify, h]
    obtain ⟨w', c', h1, h2, h3, h4, h5⟩ := ih off (i + 1) (c.setIfInBounds (off + i) v) (w.setCell ⟨r, off + i, none⟩ v) hset (by simpa using hfr) (fun x hx => hone x (by simp [hx])) (by simp; omega)
    refine ⟨w', c', ?_, ⟨h2.os, h2.tape, h2.output, by rw [h2.size]; simp, fun k hk => by rw [h2.block k hk]; exact Below.heap_setCell _ _ _ _ hk⟩, h3, by rw [h4]; simp, ?_⟩
    · simp only [storeCells, Sem.run_bind, addr_add]
      rw [run_store P w _ v _ (hone v (by simp))]
      simp only [stored, hcell, hfz, Bool.false_eq_true, if_false, Result.andThen_ok]
      exact h1
    · rw [h5, Array.toList_setIfInBounds, show off + (i + 1) = off + i + 1 by omega]
      exact set_over c.toList vs v (off + i) (by simpa using hlt)
end
end Ev
end Go.Proofs.YtipjmaimjchckaaGreatDoor

/-! THE OPERATIONS ARE RIGHT: moves, memory, parts. -/
set_option linter.unusedSimpArgs false
set_option linter.unusedVariables false
set_option linter.unusedSectionVars false
namespace Go.Proofs.YtipjmaimjchckaaGreatDoor
open Go.RowKit
namespace Ev
variable [Gh]

/-- The operands of an operation have the values that the evaluator gives them. -/
def Vals (tb : Tab) (ρ : Env) (n : Nat) (a : Act) (t : TE) (o : Op) : Prop := ∀ x ∈ o.operands, ∀ v, opd tb t x = some v → Sc n v ∧ a.eval x = den ρ v
/-- An operation comes to a value, and the heap fits again. -/
def OpRes (P : Program) (w0 : World) (ρ : Env) (cx : Cx) (s : Hs) (w : World) (m : Sem Next) (v : AV) (s' : Hs) : Prop :=
  ∃ ρ' w', (m.run P w = .ok (.value (den ρ' v)) w' ∨ (m.run P w = .ok .skip w' ∧ v = und)) ∧ Stp w0 ρ ρ' cx s s' w w' ∧ Sc s'.n v

section
variable {tb : Tab} {w0 : World} {ρ : Env} {cx : Cx} {s s' : Hs} {w : World} {a : Act} {t : TE} {call : CallT} {v : AV}
  {dst : Option Tmp} {ty : TypeId} {pos : String} {af : Array Edge} {g : Option (Nat × Bool)}

theorem OpRes.pure {m : Sem Next} (hs : SatH w0 ρ cx s w) (hr : m.run tb.p w = .ok (.value (den ρ v)) w) (hc : Sc s.n v) : OpRes tb.p w0 ρ cx s w m v s :=
  ⟨ρ, w, .inl hr, Stp.refl hs, hc⟩

omit [Gh] in
theorem ret_some {x : AV} {y : Hs} (h : ret x y = some (.ok v s')) : v = x ∧ s' = y := by cases h; exact ⟨rfl, rfl⟩
omit [Gh] in
theorem retO_some {x : Option AV} {y : Hs} (h : retO x y = some (.ok v s')) : x = some v ∧ s' = y := by
  obtain ⟨z, h1, h2⟩ := ob_some.1 h
  cases h2; exact ⟨h1, rfl⟩
omit [Gh] in
theorem retV_some {x : Option Value} {y : Hs} (h : retV x y = some (.ok v s')) : ∃ u, x = some u ∧ v = .v u ∧ s' = y := by
  obtain ⟨z, h1, h2⟩ := ob_some.1 h
  cases h2; exact ⟨z, h1, rfl, rfl⟩

theorem op_move {x : Operand} (h : oMov tb x call cx t s = some (.ok v s')) (hs : SatH w0 ρ cx s w) (hv : Vals tb ρ s.n a t (.move x)) :
    OpRes tb.p w0 ρ cx s w (execOp a.eval ⟨dst, .move x, ty, pos, af, g⟩) v s' := by
  obtain ⟨h1, rfl⟩ := retO_some h
  obtain ⟨h2, h3⟩ := hv x (by simp [Op.operands]) v h1
  exact .pure hs (by simp [execOp, h3]) h2
theorem op_assign {x : Operand} (h : oMov tb x call cx t s = some (.ok v s')) (hs : SatH w0 ρ cx s w) (hv : Vals tb ρ s.n a t (.assign x)) :
    OpRes tb.p w0 ρ cx s w (execOp a.eval ⟨dst, .assign x, ty, pos, af, g⟩) v s' := by
  obtain ⟨h1, rfl⟩ := retO_some h
  obtain ⟨h2, h3⟩ := hv x (by simp [Op.operands]) v h1
  exact .pure hs (by simp [execOp, h3]) h2
theorem op_pick {x y z : Operand} (h : oPick tb x y z call cx t s = some (.ok v s')) (hs : SatH w0 ρ cx s w) (hv : Vals tb ρ s.n a t (.pick x y z)) :
    OpRes tb.p w0 ρ cx s w (execOp a.eval ⟨dst, .pick x y z, ty, pos, af, g⟩) v s' := by
  obtain ⟨c, h1, h2⟩ := ob_some.1 h
  obtain ⟨b, rfl, h3⟩ := asBool_some h2
  obtain ⟨h4, rfl⟩ := retO_some h3
  obtain ⟨_, h5⟩ := hv x (by simp [Op.operands]) _ h1
  cases b with
  | true =>
    obtain ⟨h6, h7⟩ := hv y (by simp [Op.operands]) v h4
    exact .pure hs (by simp [execOp, h5, h7, den, Go.asBool]) h6
  | false =>
    obtain ⟨h6, h7⟩ := hv z (by simp [Op.operands]) v h4
    exact .pure hs (by simp [execOp, h5, h7, den, Go.asBool]) h6

/-- A new row of cells. -/
theorem new_row (hs : SatH w0 ρ cx s w) {cells : List AV} (hc : ScL s.n cells) (cs : Array Value) (el : TypeId) (h : cs.toList = cells.map (den ρ)) :
    Stp w0 ρ (ρ.add s.n w.heap.size 0) cx s (newRow s cells) w (w.alloc (.cells cs el)) := by
  refine hs.alloc (.cells cs el) (.row cells) 0 ⟨Env.add_off _ _ _ _, cs, el, (0, 0), ?_, fun i _ h => by omega, ?_, ScL.mono (Nat.le_succ _) _ hc⟩
  · rw [Env.add_blk]
    show (w.heap.push _)[w.heap.size]? = _
    simp
  · rw [h, ← denL_eq, ← denL_eq]
    exact (denL_ext (Env.add_ext _ _ _ _) cells hc).symm
theorem scV (n : Nat) (l : List Value) : ScL n (mapV l) := by
  rw [mapV_eq, scL_iff]; intro y hy; obtain ⟨z, _, rfl⟩ := List.mem_map.1 hy; trivial
theorem denV (ρ : Env) (l : List Value) : (mapV l).map (den ρ) = l := by
  rw [mapV_eq, List.map_map]; simp only [Function.comp_def, den, List.map_id']

variable (hT : ∀ t i, tb.ty.get t = some i → TyOk tb.p t i)
include hT

theorem op_alloc {e : TypeId} (h : oAlloc tb e call cx t s = some (.ok v s')) (hs : SatH w0 ρ cx s w) :
    OpRes tb.p w0 ρ cx s w (execOp a.eval ⟨dst, .alloc e, ty, pos, af, g⟩) v s' := by
  obtain ⟨i, h1, h2⟩ := ob_some.1 h
  obtain ⟨rfl, rfl⟩ := ret_some h2
  have hi := hT e i h1
  refine ⟨_, _, .inl ?_, new_row hs (scV _ _) (zeroOf i).cells e (by rw [denV]; exact hi.zero), ⟨Nat.lt_succ_self _, hs.good _ (Nat.le_refl _)⟩⟩
  simp only [execOp, Instr.alloc, Sem.run_bind, hi.run_zero w, Result.andThen_ok]
  simp [newVar, newRow, Go.newRow, den, Env.add_blk, Env.add_off]

theorem op_box {e : TypeId} {x : Operand} (h : oBox tb e x call cx t s = some (.ok v s')) (hs : SatH w0 ρ cx s w) (hv : Vals tb ρ s.n a t (.box e x)) :
    OpRes tb.p w0 ρ cx s w (execOp a.eval ⟨dst, .box e x, ty, pos, af, g⟩) v s' := by
  obtain ⟨y, h1, h2⟩ := ob_some.1 h
  obtain ⟨rfl, rfl⟩ := ret_some h2
  obtain ⟨h3, h4⟩ := hv x (by simp [Op.operands]) y h1
  refine ⟨_, _, .inl ?_, new_row hs (cells_sc h3) (den ρ y).cells e (cells_den ρ y), ⟨Nat.lt_succ_self _, hs.good _ (Nat.le_refl _)⟩⟩
  simp [execOp, Instr.box, newVar, Go.newRow, h4, den, Env.add_blk, Env.add_off]

theorem op_load {e : TypeId} {x : Operand} (h : oLoad tb e x call cx t s = some (.ok v s')) (hs : SatH w0 ρ cx s w) (hv : Vals tb ρ s.n a t (.load e x)) :
    OpRes tb.p w0 ρ cx s w (execOp a.eval ⟨dst, .load e x, ty, pos, af, g⟩) v s' := by
  obtain ⟨i, h1, h2⟩ := ob_some.1 h
  obtain ⟨y, h3, h4⟩ := ob_some.1 h2
  obtain ⟨b, off, rfl, h5⟩ := asPtr_some h4
  obtain ⟨o, h6, h7⟩ := ob_some.1 h5
  obtain ⟨c, ho, h8⟩ := rowC_some h7
  obtain ⟨h9, rfl⟩ := retO_some h8
  obtain ⟨_, h10⟩ := hv x (by simp [Op.operands]) _ h3
  obtain ⟨h11, h12⟩ := run_loadVar (hT e i h1) (hs.obj b o h6) ho h9
  refine .pure hs ?_ h12
  simp [execOp, Instr.loadAt, h10, den, Instr.sureAddr, h11]

/-- What a store leaves of a row. -/
theorem put_holds {n b off : Nat} {o : HO} {c vs : List AV} {w₁ : World} {c' : Array Value} {el : TypeId} {fr : Nat × Nat} {cc : Array Value} (ho : o = .row c ∨ ∃ es, o = .rowU c es) (h : o.Holds ρ n b w)
    (hw : w.heap[ρ.blk b]? = some (.cells cc el fr)) (h1 : w₁.heap[ρ.blk b]? = some (.cells c' el fr)) (h2 : c'.size = cc.size) (hl : off + vs.length ≤ c.length)
    (h3 : c'.toList = cc.toList.take off ++ vs.map (den ρ) ++ cc.toList.drop (off + vs.length)) (hsc : ScL n vs) : (rowPut o (putAt off vs c)).Holds ρ n b w₁ := by
  have hcells : ScL n c → ScL n (putAt off vs c) := fun hc => by
    rw [putAt_eq off vs c hl, scL_iff]
    rw [scL_iff] at hc hsc
    intro x hx
    rcases List.mem_append.1 hx with hx | hx
    · rcases List.mem_append.1 hx with hx | hx
      · exact hc x (List.mem_of_mem_take hx)
      · exact hsc x hx
    · exact hc x (List.mem_of_mem_drop hx)
  rcases ho with rfl | ⟨es, rfl⟩
  · obtain ⟨h0, c0, el0, fr0, k1, k2, k3, k4⟩ := h
    rw [hw] at k1; cases k1
    refine ⟨h0, c', el, fr, h1, by rw [h2]; exact k2, ?_, hcells k4⟩
    rw [h3, putAt_eq off vs c hl, k3]
    simp [List.map_take, List.map_drop]
  · obtain ⟨h0, h00, c0, el0, fr0, k1, k2, k3, ⟨rest, k4⟩, k5⟩ := h
    rw [hw] at k1; cases k1
    refine ⟨h0, h00, c', el, fr, h1, by rw [h2]; exact k2, by rw [h2]; exact k3, ⟨rest, ?_⟩, hcells k5⟩
    rw [h3, putAt_eq off vs c hl, k4]
    have e1 : (c.map (den ρ) ++ rest).take off = (c.take off).map (den ρ) := by
      rw [List.take_append, List.length_map, show off - c.length = 0 by omega, List.take_zero, List.append_nil, List.map_take]
    have e2 : (c.map (den ρ) ++ rest).drop (off + vs.length) = (c.drop (off + vs.length)).map (den ρ) ++ rest := by
      rw [List.drop_append, List.length_map, show off + vs.length - c.length = 0 by omega, List.drop_zero, List.map_drop]
    rw [e1, e2]; simp

/-- The row behind an object. -/
theorem row_of {n b : Nat} {o : HO} {c : List AV} (ho : o = .row c ∨ ∃ es, o = .rowU c es) (h : o.Holds ρ n b w) :
    ρ.off b = 0 ∧ ∃ cc el fr, w.heap[ρ.blk b]? = some (.cells cc el fr) ∧ (∀ i, i < cc.size → ¬ (fr.1 ≤ i ∧ i < fr.2)) ∧ c.length ≤ cc.size := by
  rcases ho with rfl | ⟨es, rfl⟩
  · obtain ⟨h0, c0, el0, fr0, k1, k2, k3, k4⟩ := h
    exact ⟨h0, c0, el0, fr0, k1, k2, by rw [← Array.length_toList, k3]; simp⟩
  · obtain ⟨h0, h00, c0, el0, fr0, k1, k2, k3, ⟨rest, k4⟩, k5⟩ := h
    exact ⟨h0, c0, el0, fr0, k1, k2, by rw [← Array.length_toList, k4]; simp⟩

/-- Cells are written into a row that can be seen. -/
theorem write_row (hs : SatH w0 ρ cx s w) {b off : Nat} {o : HO} {c vs : List AV} (hb : s.look cx.hid b = some o) (hf : cx.fl ≤ b) (ho : o = .row c ∨ ∃ es, o = .rowU c es)
    (hl : off + vs.length ≤ c.length) (hone : allB isOne vs = true) (hsc : ScL s.n vs) :
    ∃ w', (storeCells ⟨ρ.blk b, ρ.off b + off, none⟩ (vs.map (den ρ))).run tb.p w = .ok () w' ∧ Stp w0 ρ ρ cx s ⟨setH s.h b (rowPut o (putAt off vs c)), s.n⟩ w w' := by
  have hh := hs.obj b o hb
  obtain ⟨h0, cc, el, fr, k1, k2, k3⟩ := row_of hT ho hh
  rw [allB_eq, List.all_eq_true] at hone
  obtain ⟨w', c', r1, r2, r3, r4, r5⟩ := run_storeCells (P := tb.p) (vs.map (den ρ)) off 0 cc w k1 k2 (fun v hv => by
    obtain ⟨x, hx, rfl⟩ := List.mem_map.1 hv
    exact isOne_den (hone x hx) ρ) (by simp; omega)
  rw [h0, Nat.zero_add]
  refine ⟨w', r1, hs.put hb hf r2 ?_⟩
  simp only [Nat.add_zero, List.length_map] at r5
  exact put_holds hT ho hh k1 r3 r4 hl r5 hsc

theorem op_store {e : TypeId} {x y : Operand} (h : oStore tb e x y call cx t s = some (.ok v s')) (hs : SatH w0 ρ cx s w) (hv : Vals tb ρ s.n a t (.store e x y)) :
    OpRes tb.p w0 ρ cx s w (execOp a.eval ⟨dst, .store e x y, ty, pos, af, g⟩) v s' := by
  obtain ⟨i, h1, h2⟩ := ob_some.1 h
  obtain ⟨p, h3, h4⟩ := ob_some.1 h2
  obtain ⟨u, h5, h6⟩ := ob_some.1 h4
  obtain ⟨b, off, rfl, h7⟩ := asPtr_some h6
  obtain ⟨hf, h8⟩ := gd_some.1 h7
  obtain ⟨o, h9, h10⟩ := ob_some.1 h8
  obtain ⟨c, ho', h11⟩ := rowW_some h10
  obtain ⟨h12, h13⟩ := gd_some.1 h11
  obtain ⟨rfl, rfl⟩ := ret_some h13
  rw [band_eq, band_eq, Bool.and_eq_true, Bool.and_eq_true, beq_iff, ble_iff, len_eq, len_eq] at h12
  obtain ⟨e1, e2, e3⟩ := h12
  rw [ble_iff] at hf
  obtain ⟨_, d1⟩ := hv x (by simp [Op.operands]) _ h3
  obtain ⟨d2, d3⟩ := hv y (by simp [Op.operands]) _ h5
  obtain ⟨w', r1, r2⟩ := write_row hT hs h9 hf ho' e2 e3 (cells_sc d2)
  refine ⟨ρ, w', .inr ⟨?_, rfl⟩, r2, trivial⟩
  have hc : (den ρ u).cells.size = i.size := by rw [← Array.length_toList, cells_den, List.length_map, e1]
  simp [execOp, Instr.storeAt, d1, d3, den, Instr.sureAddr, storeVar, (hT e i h1).run_size w, hc, cells_den, r1]
end
end Ev
end Go.Proofs.YtipjmaimjchckaaGreatDoor

/-! THE OPERATIONS ARE RIGHT: addresses, parts, functions, interfaces. -/
set_option linter.unusedSimpArgs false
set_option linter.unusedVariables false
set_option linter.unusedSectionVars false
namespace Go.Proofs.YtipjmaimjchckaaGreatDoor
open Go.RowKit
namespace Ev
variable [Gh]
section
variable {tb : Tab} {w0 : World} {ρ : Env} {cx : Cx} {s s' : Hs} {w : World} {a : Act} {t : TE} {call : CallT} {v : AV}
  {dst : Option Tmp} {ty : TypeId} {pos : String} {af : Array Edge} {g : Option (Nat × Bool)} {P : Program}

theorem op_nilCheck {x : Operand} (h : oNil tb x call cx t s = some (.ok v s')) (hs : SatH w0 ρ cx s w) (hv : Vals tb ρ s.n a t (.nilCheck x)) :
    OpRes tb.p w0 ρ cx s w (execOp a.eval ⟨dst, .nilCheck x, ty, pos, af, g⟩) v s' := by
  obtain ⟨y, h1, h2⟩ := ob_some.1 h
  obtain ⟨h3, h4⟩ := hv x (by simp [Op.operands]) y h1
  cases y with
  | v y =>
    cases y with
    | func f c d =>
      obtain ⟨h5, h6⟩ := gd_some.1 h2
      obtain ⟨rfl, rfl⟩ := ret_some h6
      cases f with
      | func f => exact .pure hs (by simp [execOp, h4, den]) h3
      | _ => cases h5
    | _ => cases h2
  | ptr b o =>
    obtain ⟨rfl, rfl⟩ := ret_some h2
    exact .pure hs (by simp [execOp, h4, den]) h3
  | fn f c d =>
    obtain ⟨h5, h6⟩ := gd_some.1 h2
    obtain ⟨rfl, rfl⟩ := ret_some h6
    cases f with
    | func f => exact .pure hs (by simp [execOp, h4, den]) h3
    | _ => cases h5
  | _ => cases h2

theorem op_extract {x : Operand} {n : Nat} (h : oExtract tb x n call cx t s = some (.ok v s')) (hs : SatH w0 ρ cx s w) (hv : Vals tb ρ s.n a t (.extract x n)) :
    OpRes tb.p w0 ρ cx s w (execOp a.eval ⟨dst, .extract x n, ty, pos, af, g⟩) v s' := by
  obtain ⟨y, h1, h2⟩ := ob_some.1 h
  obtain ⟨h3, h4⟩ := hv x (by simp [Op.operands]) y h1
  obtain ⟨h5, rfl⟩ := retO_some h2
  cases y with
  | v y =>
    cases y with
    | tuple c =>
      obtain ⟨u, h6, h7⟩ := ob_some.1 h5
      cases h7
      rw [nth_eq, Array.getElem?_toList] at h6
      exact .pure hs (by simp [execOp, h4, den, Instr.extract, h6]) trivial
    | _ => cases h5
  | tup l =>
    change nth l n = some v at h5
    rw [nth_eq] at h5
    refine .pure hs ?_ ((scL_iff _ _).1 h3 v (List.mem_of_getElem? h5))
    have : (denL ρ l).toArray[n]? = some (den ρ v) := by rw [denL_eq]; simp [h5]
    simp [execOp, h4, den, Instr.extract, this]
  | _ => cases h5

theorem mapO_vals {o : Op} {l : List Operand} {r : List AV} (h : mapO (opd tb t) l = some r) (hv : Vals tb ρ s.n a t o) (hl : ∀ x ∈ l, x ∈ o.operands) :
    l.map a.eval = r.map (den ρ) ∧ ScL s.n r :=
  ⟨mapO_map h fun x hx y hy => (hv x (hl x hx) y hy).2, (scL_iff _ _).2 (mapO_all h fun x hx y hy => (hv x (hl x hx) y hy).1)⟩

theorem op_makeFunc {f : Fn} {fi ca : Array Operand} (h : oFunc tb f fi ca call cx t s = some (.ok v s')) (hs : SatH w0 ρ cx s w) (hv : Vals tb ρ s.n a t (.makeFunc f fi ca)) :
    OpRes tb.p w0 ρ cx s w (execOp a.eval ⟨dst, .makeFunc f fi ca, ty, pos, af, g⟩) v s' := by
  obtain ⟨x, h1, h2⟩ := ob_some.1 h
  obtain ⟨y, h3, h4⟩ := ob_some.1 h2
  obtain ⟨rfl, rfl⟩ := ret_some h4
  obtain ⟨e1, s1⟩ := mapO_vals h1 hv (fun x hx => by simp [Op.operands]; exact .inl (by simpa using hx))
  obtain ⟨e2, s2⟩ := mapO_vals h3 hv (fun x hx => by simp [Op.operands]; exact .inr (by simpa using hx))
  have d1 : fi.map a.eval = (denL ρ x).toArray := by apply Array.ext'; rw [Array.toList_map, e1, denL_eq]
  have d2 : ca.map a.eval = (denL ρ y).toArray := by apply Array.ext'; rw [Array.toList_map, e2, denL_eq]
  exact .pure hs (by simp [execOp, Instr.makeFunc, d1, d2, den]) ⟨s1, s2⟩

theorem info_of_und {t : TypeId} (h : (P.underlying t).isSome = true) : ∃ j, P.info? t = some j := by
  unfold Program.underlying at h
  cases hj : P.info? t with
  | none => rw [hj] at h; cases h
  | some j => exact ⟨j, rfl⟩
theorem run_size_of {t : TypeId} {n : Nat} (hn : P.cellsOf t = n) (h : ∃ j, P.info? t = some j) (w : World) : (sizeOf t).run P w = .ok n w := by
  obtain ⟨j, hj⟩ := h
  have : j.size = n := by rw [← hn]; simp [Program.cellsOf, hj]
  simp [sizeOf, typeInfo, hj, this]
theorem run_isAgg_of {t : TypeId} {b : Bool} (hb : isAggT P t = b) (h : (P.underlying t).isSome = true) (w : World) : (isAgg t).run P w = .ok b w := by
  obtain ⟨d, hd⟩ := Option.isSome_iff_exists.1 h
  have := run_underlying hd w
  unfold isAgg
  simp only [Sem.run_bind, this, Result.andThen_ok]
  rw [← hb]; unfold isAggT; rw [hd]
  cases d <;> rfl

variable (hT : ∀ t i, tb.ty.get t = some i → TyOk tb.p t i)
include hT

theorem op_makeInterface {e : TypeId} {x : Operand} (h : oIface tb e x call cx t s = some (.ok v s')) (hs : SatH w0 ρ cx s w) (hv : Vals tb ρ s.n a t (.makeInterface e x)) :
    OpRes tb.p w0 ρ cx s w (execOp a.eval ⟨dst, .makeInterface e x, ty, pos, af, g⟩) v s' := by
  obtain ⟨i, h1, h2⟩ := ob_some.1 h
  obtain ⟨hk, h3⟩ := gd_some.1 h2
  obtain ⟨y, h4, h5⟩ := ob_some.1 h3
  obtain ⟨rfl, rfl⟩ := ret_some h5
  obtain ⟨h6, h7⟩ := hv x (by simp [Op.operands]) y h4
  obtain ⟨d, k1, _, k2⟩ := (hT e i h1).desc
  have hni := not_iface (P := tb.p) (d := d) (by rw [k2]; rw [bnot_eq] at hk; simpa using hk)
  have hd : den ρ (AV.el (fun v => AV.v (.iface e v)) (fun _ _ => AV.ifc e y) (fun _ _ _ _ => AV.ifc e y) (fun _ _ _ _ => AV.ifc e y) (fun _ _ _ => AV.ifc e y) (fun _ _ => AV.ifc e y) (fun _ => AV.ifc e y) (fun _ => AV.ifc e y) (fun _ => AV.ifc e y) y) = .iface e (den ρ y) := by cases y <;> rfl
  refine .pure hs ?_ (by cases y <;> first | trivial | exact h6)
  rw [hd]
  simp only [execOp, Instr.makeInterface, Sem.run_bind, run_underlying k1 w, Result.andThen_ok, h7]
  cases d <;> first | rfl | exact absurd rfl (hni _)

theorem op_fieldAddr {e : TypeId} {x : Operand} {f : Nat} (h : oFieldA tb e x f call cx t s = some (.ok v s')) (hs : SatH w0 ρ cx s w) (hv : Vals tb ρ s.n a t (.fieldAddr e x f)) :
    OpRes tb.p w0 ρ cx s w (execOp a.eval ⟨dst, .fieldAddr e x f, ty, pos, af, g⟩) v s' := by
  obtain ⟨i, h1, h2⟩ := ob_some.1 h
  obtain ⟨fs, hk, h3⟩ := structK_some h2
  obtain ⟨q, h4, h5⟩ := ob_some.1 h3
  obtain ⟨hz, h6⟩ := gd_some.1 h5
  obtain ⟨y, h7, h8⟩ := ob_some.1 h6
  obtain ⟨b, off, rfl, h9⟩ := asPtr_some h8
  obtain ⟨rfl, rfl⟩ := ret_some h9
  obtain ⟨k0, k1⟩ := hv x (by simp [Op.operands]) _ h7
  obtain ⟨d, d1, _, d2⟩ := (hT e i h1).desc
  rw [hk] at d2
  obtain ⟨fields, rfl, d3, d4⟩ := kind_struct d2
  rw [nth_eq, d4, List.getElem?_map, Option.map_eq_some_iff] at h4
  obtain ⟨fl, f1, f2⟩ := h4
  rw [Array.getElem?_toList] at f1
  subst f2
  have hz' : tb.p.cellsOf fl.type ≠ 0 := by
    intro e; rw [bnot_eq] at hz; simp only [e] at hz; cases hz
  have hsz := run_size_of (P := tb.p) rfl (info_of_und (d3 fl (Array.mem_of_getElem? f1))) w
  refine .pure hs ?_ k0
  simp only [execOp, Instr.fieldAt, Sem.run_bind, run_underlying d1 w, Result.andThen_ok, f1, k1, den, Instr.sureAddr, Sem.run_pure, fieldPlace, hsz, if_neg hz', addr_add, Nat.add_assoc]

theorem aggC_some {x : AV} {k : List AV → Option R3} {r : R3} (h : aggC x k = some r) {n : Nat} (hs : Sc n x) : ∃ c, k c = some r ∧ ScL n c ∧ ∃ cs : Array Value, den ρ x = .agg cs ∧ cs.toList = c.map (den ρ) := by
  cases x with
  | v x =>
    cases x with
    | agg cs => exact ⟨mapV cs.toList, h, scV _ _, cs, rfl, (denV ρ _).symm⟩
    | _ => cases h
  | agg l => exact ⟨l, h, hs, _, rfl, by rw [denL_eq]⟩
  | _ => cases h

/-- A part of a struct's or an array's cells. -/
theorem run_part {t : TypeId} {agg : Bool} {size off : Nat} {c : List AV} {cs : Array Value} {v : AV} {n : Nat} (hc : cs.toList = c.map (den ρ)) (hsc : ScL n c)
    (h1 : (isAgg t).run P w = .ok agg w) (h2 : (sizeOf t).run P w = .ok size w) (hl : loadC agg size off c = some v) : (part t cs off).run P w = .ok (den ρ v) w ∧ Sc n v := by
  obtain ⟨k1, k2, k3⟩ := loadC_ok (ρ := ρ) hl hsc
  refine ⟨?_, k1⟩
  unfold part
  simp only [Sem.run_bind, h1, Result.andThen_ok]
  cases agg with
  | true =>
    simp only [if_true, Sem.run_bind, h2, Result.andThen_ok, Sem.run_pure]
    have he : (cs.extract off (off + size)).toList = ((c.drop off).take size).map (den ρ) := by
      rw [Array.toList_extract, hc, List.extract_eq_take_drop]
      simp [List.map_drop, List.map_take]
    rcases k2 rfl with ⟨k4, _⟩ | ⟨k4, k5⟩
    · rw [k4]
      congr 2
      apply Array.ext'
      rw [he]
    · rw [k5]
      congr 2
      apply Array.ext'
      rw [he, k4]; rfl
  | false =>
    have k4 := k3 rfl
    have : cs[off]? = some (den ρ v) := by rw [← Array.getElem?_toList, hc, List.getElem?_map, k4]; rfl
    simp [this]

theorem op_field {e : TypeId} {x : Operand} {f : Nat} (h : oField tb e x f call cx t s = some (.ok v s')) (hs : SatH w0 ρ cx s w) (hv : Vals tb ρ s.n a t (.field e x f)) :
    OpRes tb.p w0 ρ cx s w (execOp a.eval ⟨dst, .field e x f, ty, pos, af, g⟩) v s' := by
  obtain ⟨i, h1, h2⟩ := ob_some.1 h
  obtain ⟨fs, hk, h3⟩ := structK_some h2
  obtain ⟨q, h4, h5⟩ := ob_some.1 h3
  obtain ⟨y, h7, h8⟩ := ob_some.1 h5
  obtain ⟨k0, k1⟩ := hv x (by simp [Op.operands]) _ h7
  obtain ⟨c, h9, hc, cs, c1, c2⟩ := aggC_some (ρ := ρ) hT h8 k0
  obtain ⟨h10, rfl⟩ := retO_some h9
  obtain ⟨d, d1, _, d2⟩ := (hT e i h1).desc
  rw [hk] at d2
  obtain ⟨fields, rfl, d3, d4⟩ := kind_struct d2
  rw [nth_eq, d4, List.getElem?_map, Option.map_eq_some_iff] at h4
  obtain ⟨fl, f1, f2⟩ := h4
  rw [Array.getElem?_toList] at f1
  subst f2
  have hu := d3 fl (Array.mem_of_getElem? f1)
  obtain ⟨r1, r2⟩ := run_part (P := tb.p) (w := w) hT c2 hc (run_isAgg_of rfl hu w) (run_size_of rfl (info_of_und hu) w) h10
  refine .pure hs ?_ r2
  simp only [execOp, Instr.field, Sem.run_bind, run_underlying d1 w, Result.andThen_ok, f1, k1, c1, asAgg, Sem.run_pure, r1]

theorem op_indexAddr {e : TypeId} {x y : Operand} (h : oIndexA tb e x y call cx t s = some (.ok v s')) (hs : SatH w0 ρ cx s w) (hv : Vals tb ρ s.n a t (.indexAddr e x y)) :
    OpRes tb.p w0 ρ cx s w (execOp a.eval ⟨dst, .indexAddr e x y, ty, pos, af, g⟩) v s' := by
  obtain ⟨i, h1, h2⟩ := ob_some.1 h
  obtain ⟨p, h3, h4⟩ := ob_some.1 h2
  obtain ⟨u, h5, h6⟩ := ob_some.1 h4
  obtain ⟨q, j, rfl, h7⟩ := asNat_some h6
  obtain ⟨p1, p2⟩ := hv x (by simp [Op.operands]) _ h3
  obtain ⟨_, u2⟩ := hv y (by simp [Op.operands]) _ h5
  obtain ⟨d, d1, _, d2⟩ := (hT e i h1).desc
  cases hk : i.k with
  | slice el =>
    rw [hk] at h7 d2
    obtain rfl := kind_slice d2
    obtain ⟨ei, h8, h9⟩ := ob_some.1 h7
    have hsz := (hT el ei h8).run_size w
    cases p with
    | sl b off n c =>
      obtain ⟨h10, h11⟩ := gd_some.1 h9
      obtain ⟨rfl, rfl⟩ := ret_some h11
      rw [ble_iff] at h10
      refine .pure hs ?_ p1
      simp only [execOp, Instr.indexAt, Sem.run_bind, p2, u2, den, asIntOf, Sem.run_pure, Result.andThen_ok, run_underlying d1 w]
      rw [if_pos ⟨by omega, by omega⟩]
      simp only [Sem.run_bind, hsz, Result.andThen_ok, Sem.run_pure, addr_add, Int.toNat_natCast, Nat.add_assoc]
    | slU b off n c =>
      obtain ⟨h10, h11⟩ := gd_some.1 h9
      obtain ⟨rfl, rfl⟩ := ret_some h11
      rw [ble_iff] at h10
      refine .pure hs ?_ p1
      simp only [execOp, Instr.indexAt, Sem.run_bind, p2, u2, den, asIntOf, Sem.run_pure, Result.andThen_ok, run_underlying d1 w]
      rw [if_pos ⟨by omega, by omega⟩]
      simp only [Sem.run_bind, hsz, Result.andThen_ok, Sem.run_pure, addr_add, Int.toNat_natCast, Nat.add_assoc]
    | _ => cases h9
  | arr n el =>
    rw [hk] at h7 d2
    obtain rfl := kind_arr d2
    obtain ⟨ei, h8, h9⟩ := ob_some.1 h7
    have hsz := (hT el ei h8).run_size w
    obtain ⟨b, off, rfl, h10⟩ := asPtr_some h9
    obtain ⟨h11, h12⟩ := gd_some.1 h10
    obtain ⟨rfl, rfl⟩ := ret_some h12
    rw [ble_iff] at h11
    refine .pure hs ?_ p1
    simp only [execOp, Instr.indexAt, Sem.run_bind, p2, u2, den, asIntOf, Sem.run_pure, Result.andThen_ok, run_underlying d1 w, Instr.sureAddr]
    rw [if_pos ⟨by omega, by omega⟩]
    simp only [Sem.run_bind, hsz, Result.andThen_ok, Sem.run_pure, addr_add, Int.toNat_natCast, Nat.add_assoc]
  | _ => rw [hk] at h7; cases h7

theorem op_index {e : TypeId} {x y : Operand} (h : oIndex tb e x y call cx t s = some (.ok v s')) (hs : SatH w0 ρ cx s w) (hv : Vals tb ρ s.n a t (.index e x y)) :
    OpRes tb.p w0 ρ cx s w (execOp a.eval ⟨dst, .index e x y, ty, pos, af, g⟩) v s' := by
  obtain ⟨i, h1, h2⟩ := ob_some.1 h
  obtain ⟨p, h3, h4⟩ := ob_some.1 h2
  obtain ⟨u, h5, h6⟩ := ob_some.1 h4
  obtain ⟨q, j, rfl, h7⟩ := asNat_some h6
  obtain ⟨p1, p2⟩ := hv x (by simp [Op.operands]) _ h3
  obtain ⟨_, u2⟩ := hv y (by simp [Op.operands]) _ h5
  obtain ⟨d, d1, _, d2⟩ := (hT e i h1).desc
  cases hk : i.k with
  | str =>
    rw [hk] at h7 d2
    obtain rfl := kind_str d2
    obtain ⟨z, rfl, h8⟩ := asV_some h7
    obtain ⟨u, h9, rfl, rfl⟩ := retV_some h8
    cases z with
    | string bs =>
      obtain ⟨c, h10, h11⟩ := ob_some.1 h9
      cases h11
      rw [nth_eq] at h10
      refine .pure hs ?_ trivial
      have hj : j < bs.size := by
        have := (List.getElem?_eq_some_iff.1 h10).1
        simpa using this
      have hb : bs[j]? = some c := by
        rw [getElem?_pos bs j hj]
        have h12 := (List.getElem?_eq_some_iff.1 h10).2
        rw [← h12]; rfl
      simp only [execOp, Instr.index, Sem.run_bind, p2, u2, den, asIntOf, Sem.run_pure, Result.andThen_ok, run_underlying d1 w, Int.toNat_natCast, if_pos (show (0 : Int) ≤ (j : Int) by omega), hb, Int.ofNat_eq_natCast]
    | _ => cases h9
  | arr n el =>
    rw [hk] at h7 d2
    obtain rfl := kind_arr d2
    obtain ⟨ei, h8, h9⟩ := ob_some.1 h7
    obtain ⟨h10, h11⟩ := gd_some.1 h9
    rw [ble_iff] at h10
    obtain ⟨c, h12, hc, cs, c1, c2⟩ := aggC_some (ρ := ρ) hT h11 p1
    obtain ⟨h13, rfl⟩ := retO_some h12
    have hei := hT el ei h8
    obtain ⟨r1, r2⟩ := run_part (P := tb.p) (w := w) hT c2 hc (hei.run_agg w) (hei.run_size w) h13
    refine .pure hs ?_ r2
    simp only [execOp, Instr.index, Sem.run_bind, p2, u2, c1, den, asIntOf, Sem.run_pure, Result.andThen_ok, run_underlying d1 w]
    rw [if_pos ⟨by omega, by omega⟩]
    simp only [Sem.run_bind, hei.run_size w, Result.andThen_ok, Int.toNat_natCast, r1, Sem.run_pure]
  | _ => rw [hk] at h7; cases h7
end
end Ev
end Go.Proofs.YtipjmaimjchckaaGreatDoor

/-! THE OPERATIONS ARE RIGHT: numbers, comparisons, conversions. -/
set_option linter.unusedSimpArgs false
set_option linter.unusedVariables false
set_option linter.unusedSectionVars false
namespace Go.Proofs.YtipjmaimjchckaaGreatDoor
open Go.RowKit
namespace Ev
variable [Gh]
section
variable {tb : Tab} {w0 : World} {ρ : Env} {cx : Cx} {s s' : Hs} {w : World} {a : Act} {t : TE} {call : CallT} {v : AV}
  {dst : Option Tmp} {ty : TypeId} {pos : String} {af : Array Edge} {g : Option (Nat × Bool)} {P : Program}

theorem toV_some {x : AV} {u : Value} (h : toV x = some u) (ρ : Env) : den ρ x = u := by
  cases x with
  | v x => cases h; rfl
  | agg l =>
    change ob (mapO _ l) _ = some u at h
    obtain ⟨vs, h1, h2⟩ := ob_some.1 h
    cases h2
    have := mapO_map (g := den ρ) (d := fun x => x) h1 (fun x _ y hy => by
      cases x <;> first | (cases hy; done) | (cases hy; rfl))
    simp only [den, denL_eq, this, List.map_id']
  | _ => cases h
theorem toV_vals {l : List AV} {vs : List Value} (h : mapO toV l = some vs) (ρ : Env) : l.map (den ρ) = vs := by
  have := mapO_map (g := den ρ) (d := fun x => x) h (fun x _ y hy => toV_some hy ρ)
  simpa using this

theorem op_unOp {op : UnOp} {xt : TypeId} {x : Operand} (h : oUn tb op xt x call cx t s = some (.ok v s')) (hs : SatH w0 ρ cx s w) (hv : Vals tb ρ s.n a t (.unOp op xt x)) :
    OpRes tb.p w0 ρ cx s w (execOp a.eval ⟨dst, .unOp op xt x, ty, pos, af, g⟩) v s' := by
  obtain ⟨y, h1, h2⟩ := ob_some.1 h
  obtain ⟨u, h3, rfl, rfl⟩ := retV_some h2
  obtain ⟨_, h4⟩ := hv x (by simp [Op.operands]) y h1
  refine .pure hs ?_ trivial
  have key : (Op.unary op (a.eval x)).run tb.p w = .ok u w := by
    cases op with
    | not =>
      obtain ⟨b, rfl, h5⟩ := asBool_some h3
      cases h5
      rw [h4, bnot_eq]; rfl
    | neg => obtain ⟨z, rfl, h5⟩ := asV_some h3; rw [h4]; exact semV_run h5 w
    | xor => obtain ⟨z, rfl, h5⟩ := asV_some h3; rw [h4]; exact semV_run h5 w
    | plus => obtain ⟨z, rfl, h5⟩ := asV_some h3; rw [h4]; exact semV_run h5 w
  simp [execOp, key, den]

/-- Whole numbers. -/
theorem run_ibin {op : BinOp} {k : IntKind} {x y : Int} {u : Value} (h : ibin op k x y = some u) (t : TypeId) (ox oy : Operand) (w : World) :
    (do eqGuard op t ox oy (.int k x) (.int k y); binOp op t (.int k x) (.int k y)).run P w = .ok u w := by
  cases op with
  | add => cases h; simp [eqGuard, binOp, Op.intArith, wrapK_eq, iadd_eq]
  | sub => cases h; simp [eqGuard, binOp, Op.intArith, wrapK_eq, iadd_eq, ineg_eq, Int.sub_eq_add_neg]
  | mul => cases h; simp [eqGuard, binOp, Op.intArith, wrapK_eq]
  | quo =>
    obtain ⟨h1, h2⟩ := gd_some.1 h
    cases h2
    rw [bnot_eq, ieq_eq] at h1
    have hy : y ≠ 0 := by simpa using h1
    simp [eqGuard, binOp, Op.intDiv, wrapK_eq, hy]
  | rem =>
    obtain ⟨h1, h2⟩ := gd_some.1 h
    cases h2
    rw [bnot_eq, ieq_eq] at h1
    have hy : y ≠ 0 := by simpa using h1
    simp [eqGuard, binOp, Op.intDiv, hy]
  | eql => cases h; simp [eqGuard, binOp, Op.intCmp, ieq_eq]; rfl
  | neq => cases h; simp [eqGuard, binOp, Op.intCmp, ieq_eq, bnot_eq]; rfl
  | lss =>
    cases h
    have : bnot (ile y x) = decide (x < y) := by rw [bnot_eq, ile_eq]; by_cases q : x < y <;> simp [q] <;> omega
    simp [eqGuard, binOp, Op.intCmp, this]
  | leq => cases h; simp [eqGuard, binOp, Op.intCmp, ile_eq]
  | gtr =>
    cases h
    have : bnot (ile x y) = decide (x > y) := by rw [bnot_eq, ile_eq]; by_cases q : y < x <;> simp [q] <;> omega
    simp [eqGuard, binOp, Op.intCmp, this]
  | geq => cases h; simp [eqGuard, binOp, Op.intCmp, ile_eq]
  | _ => cases h

/-- The model's comparison of a value with nil. -/
theorem run_equal_nil {t : TypeId} {d : TypeDesc} (hd : P.underlying t = some d) (x n : AV) (k : TyK) (hk : kindOf P d = k) {m : Nat} {z : Value} (hn : n = .v z) (h1 : nilK z = some m) (h2 : sideK k x = some m) (ρ : Env) (w : World) :
    (Op.equal t (den ρ x) (den ρ n)).run P w = .ok false w ∧ (Op.equal t (den ρ n) (den ρ x)).run P w = .ok false w := by
  suffices key : ∀ m, (Op.equalIn (m + 1) t (den ρ x) (den ρ n)).run P w = .ok false w ∧ (Op.equalIn (m + 1) t (den ρ n) (den ρ x)).run P w = .ok false w from key 9999
  intro dep
  subst hn
  have hu := run_underlying hd w
  cases x with
  | v _ => cases h2
  | agg _ => cases h2
  | tup _ => cases h2
  | mp _ => cases h2
  | ptr b o =>
    obtain ⟨h3, h4⟩ := gd_some.1 h2
    cases h4
    subst hk
    have hd' : ∃ el, d = .pointer el := by
      cases hq : kindOf P d <;> rw [hq] at h3 <;> first | (cases h3; done) | exact ⟨_, kind_ptr hq⟩
    obtain ⟨el, rfl⟩ := hd'
    cases z with
    | pointer ad =>
      cases ad with
      | none => constructor <;> (simp only [Op.equalIn, Sem.run_bind, hu, Result.andThen_ok, den]; rfl)
      | some _ => cases h1
    | slice ad l c => cases ad <;> cases h1
    | _ => cases h1
  | sl b o l c =>
    obtain ⟨h3, h4⟩ := gd_some.1 h2
    cases h4
    subst hk
    have hd' : ∃ el, d = .slice el := by
      cases hq : kindOf P d <;> rw [hq] at h3 <;> first | (cases h3; done) | exact ⟨_, kind_slice hq⟩
    obtain ⟨el, rfl⟩ := hd'
    cases z with
    | slice ad l c =>
      cases ad with
      | none => constructor <;> (simp only [Op.equalIn, Sem.run_bind, hu, Result.andThen_ok, den]; rfl)
      | some _ => cases h1
    | pointer ad => cases ad <;> cases h1
    | _ => cases h1
  | slU b o l c =>
    obtain ⟨h3, h4⟩ := gd_some.1 h2
    cases h4
    subst hk
    have hd' : ∃ el, d = .slice el := by
      cases hq : kindOf P d <;> rw [hq] at h3 <;> first | (cases h3; done) | exact ⟨_, kind_slice hq⟩
    obtain ⟨el, rfl⟩ := hd'
    cases z with
    | slice ad l c =>
      cases ad with
      | none => constructor <;> (simp only [Op.equalIn, Sem.run_bind, hu, Result.andThen_ok, den]; rfl)
      | some _ => cases h1
    | pointer ad => cases ad <;> cases h1
    | _ => cases h1
  | fn f fi ca =>
    obtain ⟨h3, h4⟩ := gd_some.1 h2
    cases h4
    subst hk
    have hd' : ∃ a b c, d = .func a b c := by
      cases hq : kindOf P d <;> rw [hq] at h3 <;> first | (cases h3; done) | exact kind_func hq
    obtain ⟨_, _, _, rfl⟩ := hd'
    cases z with
    | nilFunc => constructor <;> (simp only [Op.equalIn, Sem.run_bind, hu, Result.andThen_ok, den]; rfl)
    | slice ad l c => cases ad <;> cases h1
    | pointer ad => cases ad <;> cases h1
    | _ => cases h1
  | ifc u y =>
    obtain ⟨h3, h4⟩ := gd_some.1 h2
    cases h4
    subst hk
    have hd' : ∃ ms, d = .interface ms := by
      cases hq : kindOf P d <;> rw [hq] at h3 <;> first | (cases h3; done) | exact kind_iface hq
    obtain ⟨_, rfl⟩ := hd'
    cases z with
    | nilIface => constructor <;> (simp only [Op.equalIn, Sem.run_bind, hu, Result.andThen_ok, den]; rfl)
    | slice ad l c => cases ad <;> cases h1
    | pointer ad => cases ad <;> cases h1
    | _ => cases h1

/-- A value that is not nil, by its form, and nil: what the model's binOp makes of them. -/
theorem run_binNil {op : BinOp} {e : Bool} (ho : isEq op = some e) {t : TypeId} {x z : Value} (hx : ∀ k n, x ≠ .int k n) (hxf : ∀ k n, x ≠ .float k n) (hxs : ∀ k, x ≠ .string k) (hxc : ∀ k m n, x ≠ .complex k m n)
    (hg : ∀ ox oy, (eqGuard op t ox oy x z).run P w = .ok () w) (hr : (Op.equal t x z).run P w = .ok false w) (ox oy : Operand) :
    (do eqGuard op t ox oy x z; binOp op t x z).run P w = .ok (.bool (bnot e)) w := by
  simp only [Sem.run_bind, hg, Result.andThen_ok]
  cases op with
  | eql =>
    cases ho
    cases x <;> first | exact absurd rfl (hx _ _) | exact absurd rfl (hxf _ _) | exact absurd rfl (hxs _) | exact absurd rfl (hxc _ _ _) | (simp only [binOp, Sem.run_bind, hr, Result.andThen_ok]; rfl)
  | neq =>
    cases ho
    cases x <;> first | exact absurd rfl (hx _ _) | exact absurd rfl (hxf _ _) | exact absurd rfl (hxs _) | exact absurd rfl (hxc _ _ _) | (simp only [binOp, Sem.run_bind, hr, Result.andThen_ok]; rfl)
  | _ => cases ho
end
end Ev
end Go.Proofs.YtipjmaimjchckaaGreatDoor

/-! THE OPERATIONS ARE RIGHT: binOp, convert, build, slices. -/
set_option linter.unusedSimpArgs false
set_option linter.unusedVariables false
set_option linter.unusedSectionVars false
namespace Go.Proofs.YtipjmaimjchckaaGreatDoor
open Go.RowKit
namespace Ev
variable [Gh]
section
variable {tb : Tab} {w0 : World} {ρ : Env} {cx : Cx} {s s' : Hs} {w : World} {a : Act} {t : TE} {call : CallT} {v : AV}
  {dst : Option Tmp} {ty : TypeId} {pos : String} {af : Array Edge} {g : Option (Nat × Bool)} {P : Program}

/-- Parts are laid over cells. -/
theorem fill_ok {pl pl' : Nat → Option (Nat × Nat)} (hp : ∀ i q, pl i = some q → pl' i = some q) : ∀ (ps : List (Nat × AV)) (l l' : List AV) (cs : Array Value), fillA pl ps l = some l' → cs.toList = l.map (den ρ) → ScL s.n l → (∀ p ∈ ps, Sc s.n p.2) →
    ∃ cs', Instr.fill pl' cs (ps.map fun p => (p.1, den ρ p.2)) = some cs' ∧ cs'.toList = l'.map (den ρ) ∧ ScL s.n l' ∧ l'.length = l.length := by
  intro ps
  induction ps with
  | nil => intro l l' cs h hc hs _; cases h; exact ⟨cs, rfl, hc, hs, rfl⟩
  | cons p ps ih =>
    intro l l' cs h hc hs hps
    change ob (pl p.1) (fun q => (fun c => gd (band (Nat.beq (len c) q.2) (Nat.ble (q.1 + len c) (len l))) (fillA pl ps (putAt q.1 c l))) (cellsOf p.2)) = some l' at h
    obtain ⟨q, h1, h2⟩ := ob_some.1 h
    obtain ⟨h3, h4⟩ := gd_some.1 h2
    rw [band_eq, Bool.and_eq_true, beq_iff, ble_iff, len_eq, len_eq] at h3
    obtain ⟨e1, e2⟩ := h3
    have hpc := cells_sc (hps p (by simp))
    have hcl := cells_den ρ p.2
    have hsz : (den ρ p.2).cells.size = q.2 := by rw [← Array.length_toList, hcl, List.length_map, e1]
    have hcs : cs.size = l.length := by rw [← Array.length_toList, hc, List.length_map]
    obtain ⟨f1, f2⟩ := Go.Great.foldl_set q.1 (den ρ p.2).cells.toList 0 cs
    have hover : ((den ρ p.2).cells.zipIdx.foldl (fun cs (c, j) => cs.setIfInBounds (q.1 + j) c) cs).toList = (putAt q.1 (cellsOf p.2) l).map (den ρ) := by
      have e : (den ρ p.2).cells.zipIdx.foldl (fun cs (c, j) => cs.setIfInBounds (q.1 + j) c) cs = ((den ρ p.2).cells.toList.zipIdx 0).foldl (fun cs (x : Value × Nat) => cs.setIfInBounds (q.1 + x.2) x.1) cs := by
        rw [← Array.foldl_toList, Array.toList_zipIdx]
      rw [e]
      apply List.ext_getElem?
      intro k
      rw [Array.getElem?_toList, f2 k, putAt_eq _ _ _ e2]
      simp only [Nat.add_zero, Array.length_toList, hsz]
      by_cases hin : q.1 ≤ k ∧ k < q.1 + q.2 ∧ k < cs.size
      · rw [if_pos hin, hcl]
        rw [List.map_append, List.map_append, List.append_assoc, List.getElem?_append_right (by simp; omega), List.getElem?_append_left (by simp; omega)]
        simp [show min q.1 l.length = q.1 by omega]
      · rw [if_neg hin, ← Array.getElem?_toList, hc]
        rw [List.map_append, List.map_append, List.append_assoc]
        by_cases hk : k < q.1
        · rw [List.getElem?_append_left (by simp; omega), List.map_take, List.getElem?_take_of_lt hk]
        · have hk2 : q.1 + q.2 ≤ k := by
            rcases Nat.lt_or_ge k (q.1 + q.2) with h | h
            · exact absurd ⟨by omega, h, by omega⟩ hin
            · exact h
          rw [List.getElem?_append_right (by simp; omega), List.getElem?_append_right (by simp; omega)]
          simp only [List.length_map, List.length_take, show min q.1 l.length = q.1 by omega, List.map_drop, List.getElem?_drop, e1]
          congr 1; omega
    have hs2 : ScL s.n (putAt q.1 (cellsOf p.2) l) := by
      rw [putAt_eq _ _ _ e2, scL_iff]
      rw [scL_iff] at hs hpc
      intro x hx
      rcases List.mem_append.1 hx with hx | hx
      · rcases List.mem_append.1 hx with hx | hx
        · exact hs x (List.mem_of_mem_take hx)
        · exact hpc x hx
      · exact hs x (List.mem_of_mem_drop hx)
    obtain ⟨cs', k1, k2, k3, k4⟩ := ih (putAt q.1 (cellsOf p.2) l) l' _ h4 hover hs2 (fun x hx => hps x (by simp [hx]))
    refine ⟨cs', ?_, k2, k3, by rw [k4, putAt_eq _ _ _ e2]; simp; omega⟩
    simp only [List.map_cons, Instr.fill, hp _ _ h1]
    rw [if_neg (by simp [hsz]; omega)]
    exact k1

theorem parts_ok {o : Op} {ps : Array (Nat × Operand)} {r : List (Nat × AV)} (h : parts tb t ps = some r) (hv : Vals tb ρ s.n a t o) (ho : ∀ p ∈ ps, p.2 ∈ o.operands) :
    (ps.map fun (i, x) => (i, a.eval x)).toList = r.map (fun p => (p.1, den ρ p.2)) ∧ ∀ p ∈ r, Sc s.n p.2 := by
  have hx : ∀ p ∈ ps.toList, ∀ y, ob (opd tb t p.2) (fun x => some (p.1, x)) = some y → y.1 = p.1 ∧ Sc s.n y.2 ∧ a.eval p.2 = den ρ y.2 := by
    intro p hp y hy
    obtain ⟨z, h1, h2⟩ := ob_some.1 hy
    cases h2
    exact ⟨rfl, hv p.2 (ho p (by simpa using hp)) z h1⟩
  refine ⟨?_, mapO_all h fun p hp y hy => (hx p hp y hy).2.1⟩
  rw [Array.toList_map]
  exact mapO_map h fun p hp y hy => by obtain ⟨e1, _, e2⟩ := hx p hp y hy; rw [e1, ← e2]

theorem mapM_some_all {α β : Type} {f : α → Option β} {g : α → β} : ∀ (l : List α), (∀ x ∈ l, f x = some (g x)) → l.mapM f = some (l.map g)
  | [], _ => rfl
  | x :: l, h => by
    rw [List.mapM_cons, h x (by simp), mapM_some_all l (fun y hy => h y (by simp [hy]))]; rfl

theorem range_zero (z : Nat) (Z : Array Value) (hz : Z.size = z) : ∀ n, ((Array.range (n * z)).map (Z[· % Z.size]!)).toList = (List.replicate n Z.toList).flatten := by
  intro n
  rw [Array.toList_map, Array.toList_range]
  induction n with
  | zero => simp
  | succ n ih =>
    rw [List.replicate_succ', List.flatten_append, ← ih, Nat.succ_mul, List.range_add, List.map_append]
    congr 1
    simp only [List.flatten_cons, List.flatten_nil, List.append_nil, List.map_map]
    apply List.ext_getElem?
    intro j
    rw [List.getElem?_map]
    by_cases hj : j < z
    · rw [List.getElem?_range hj]
      simp only [Option.map_some, Function.comp_def, hz]
      rw [Nat.mul_comm, Nat.mul_add_mod, Nat.mod_eq_of_lt hj, Array.getElem?_toList, getElem!_pos Z j (by omega), getElem?_pos Z j (by omega)]
    · rw [List.getElem?_eq_none (by simp; omega), List.getElem?_eq_none (by simp; omega)]; rfl

variable (hT : ∀ t i, tb.ty.get t = some i → TyOk tb.p t i)
include hT

theorem op_binOp {op : BinOp} {xt yt : TypeId} {x y : Operand} (h : oBin tb op xt x y yt call cx t s = some (.ok v s')) (hs : SatH w0 ρ cx s w) (hv : Vals tb ρ s.n a t (.binOp op xt x y yt)) :
    OpRes tb.p w0 ρ cx s w (execOp a.eval ⟨dst, .binOp op xt x y yt, ty, pos, af, g⟩) v s' := by
  obtain ⟨X, h1, h2⟩ := ob_some.1 h
  obtain ⟨Y, h3, h4⟩ := ob_some.1 h2
  obtain ⟨u, h5, rfl, rfl⟩ := retV_some h4
  obtain ⟨_, e1⟩ := hv x (by simp [Op.operands]) X h1
  obtain ⟨_, e2⟩ := hv y (by simp [Op.operands]) Y h3
  refine .pure hs ?_ trivial
  have key : (do eqGuard op xt x y (a.eval x) (a.eval y); binOp op xt (a.eval x) (a.eval y)).run tb.p w = .ok u w := by
    rw [e1, e2]
    rcases orE_some h5 with h6 | h6
    · obtain ⟨k, m, rfl, h7⟩ := asInt_some h6
      obtain ⟨k', n, rfl, h8⟩ := asInt_some h7
      obtain ⟨hk, h9⟩ := gd_some.1 h8
      rw [kEq_iff] at hk
      subst hk
      exact run_ibin h9 _ _ _ w
    · obtain ⟨i, h7, h8⟩ := ob_some.1 h6
      obtain ⟨d, d1, _, d2⟩ := (hT xt i h7).desc
      rcases orE_some h8 with h9 | h9
      · obtain ⟨e, k1, k2⟩ := ob_some.1 h9
        obtain ⟨n, rfl, k3⟩ := asV_some k2
        obtain ⟨m, k4, k5⟩ := ob_some.1 k3
        obtain ⟨m', k6, k7⟩ := ob_some.1 k5
        obtain ⟨k8, k9⟩ := gd_some.1 k7
        cases k9
        rw [beq_iff] at k8
        subst k8
        have hr := (run_equal_nil (P := tb.p) d1 X (.v n) i.k d2 rfl k4 k6 ρ w).1
        refine run_binNil k1 (fun _ _ => ?_) (fun _ _ => ?_) (fun _ => ?_) (fun _ _ _ => ?_) (fun _ _ => ?_) hr x y
        all_goals (cases X <;> first | (cases k6; done) | skip)
        all_goals (first | (intro hh; cases hh; done) | skip)
        all_goals (unfold eqGuard; split <;> first | rfl | skip)
        all_goals (simp only [den]; cases n <;> first | rfl | (cases k4; done))
      · rcases orE_some h9 with h9 | h9
        · obtain ⟨e, k1, k2⟩ := ob_some.1 h9
          obtain ⟨n, rfl, k3⟩ := asV_some k2
          obtain ⟨m, k4, k5⟩ := ob_some.1 k3
          obtain ⟨m', k6, k7⟩ := ob_some.1 k5
          obtain ⟨k8, k9⟩ := gd_some.1 k7
          cases k9
          rw [beq_iff] at k8
          subst k8
          have hr := (run_equal_nil (P := tb.p) d1 Y (.v n) i.k d2 rfl k4 k6 ρ w).2
          refine run_binNil k1 (fun _ _ => ?_) (fun _ _ => ?_) (fun _ => ?_) (fun _ _ _ => ?_) (fun _ _ => ?_) hr x y
          all_goals (cases n <;> first | (cases k4; done) | skip)
          all_goals (first | (intro hh; cases hh; done) | skip)
          all_goals (unfold eqGuard; split <;> first | rfl | skip)
          all_goals (simp only [den]; cases Y <;> first | rfl | (cases k6; done))
        · obtain ⟨A, k1, k2⟩ := ob_some.1 h9
          obtain ⟨B, k3, k4⟩ := ob_some.1 k2
          rw [toV_some k1 ρ, toV_some k3 ρ]
          exact semV_run k4 w
  simp only [execOp]
  rw [Sem.run_bind]
  rw [key]
  rfl

theorem op_convert {src dt : TypeId} {x : Operand} (h : oConv tb src dt x call cx t s = some (.ok v s')) (hs : SatH w0 ρ cx s w) (hv : Vals tb ρ s.n a t (.convert src dt x)) :
    OpRes tb.p w0 ρ cx s w (execOp a.eval ⟨dst, .convert src dt x, ty, pos, af, g⟩) v s' := by
  obtain ⟨X, h1, h2⟩ := ob_some.1 h
  obtain ⟨_, e1⟩ := hv x (by simp [Op.operands]) X h1
  rcases orE_some h2 with h2 | h2
  rotate_left
  · -- a string, as bytes
    obtain ⟨i, k1, k2⟩ := ob_some.1 h2
    obtain ⟨k3, k4⟩ := gd_some.1 k2
    obtain ⟨j, k5, k6⟩ := ob_some.1 k4
    obtain ⟨e, k7, k8⟩ := elemK_some k6
    obtain ⟨ei, k9, k10⟩ := ob_some.1 k8
    obtain ⟨k11, k12⟩ := gd_some.1 k10
    obtain ⟨z, rfl, k13⟩ := asV_some k12
    cases z with
    | string bs =>
      obtain ⟨rfl, rfl⟩ := ret_some k13
      obtain ⟨d, d1, _, d2⟩ := (hT src i k1).desc
      obtain ⟨d', d1', _, d2'⟩ := (hT dt j k5).desc
      obtain ⟨de, de1, _, de2⟩ := (hT e ei k9).desc
      have hk : i.k = .str := by cases hi : i.k <;> rw [hi] at k3 <;> first | rfl | cases k3
      have hk8 : ei.k = .int .u8 := by
        cases hi : ei.k <;> rw [hi] at k11 <;> first | (exact congrArg _ (kEq_iff.1 k11)) | cases k11
      rw [hk] at d2; rw [k7] at d2'; rw [hk8] at de2
      obtain rfl := kind_str d2
      obtain rfl := kind_slice d2'
      obtain rfl := kind_int de2
      have hrun := run_bytes_of_string w src dt e bs d1 d1' de1
      have hcap : bs.size ≤ grownCap w bs.size 0 e := by simp only [grownCap, Question.cut]; omega
      generalize grownCap w bs.size 0 e = c at hrun hcap
      have hsz : (bytesRow bs c).size = c := by
        simp only [bytesRow, Array.size_append, Array.size_map, Array.size_replicate]
        show bs.size + (c - bs.size) = c
        omega
      have hb : byteCells bs.data.toList = bs.data.toList.map fun b => AV.v (.int .u8 b.toNat) := by
        generalize bs.data.toList = l
        induction l with
        | nil => rfl
        | cons x l ih => show AV.v (.int .u8 (Int.ofNat x.toNat)) :: byteCells l = _; rw [ih]; rfl
      have hlen : len bs.data.toList = bs.size := by rw [len_eq]; exact Array.length_toList
      have h9 := hs.world (w₁ := w.drew) ((Below.refl _ _).drew)
      refine ⟨ρ.add s.n w.heap.size c, _, .inl ?_, h9.trans (h9.sat.alloc (.cells (bytesRow bs c) e ((bytesRow bs c).size, (bytesRow bs c).size + 1)) (.rowU (byteCells bs.data.toList) 1) c ?_), ⟨Nat.lt_succ_self _, hs.good _ (Nat.le_refl _)⟩⟩
      · simp only [execOp, e1, den, Sem.run_bind, hrun, Result.andThen_ok, Sem.run_pure, hlen, Env.add_blk, Env.add_off, Env.add_cap, Nat.sub_zero, Nat.add_zero]
      · refine ⟨Env.add_off _ _ _ _, by omega, bytesRow bs c, e, _, by rw [Env.add_blk]; exact Array.getElem?_push_size, fun i hi h => by omega, by rw [Env.add_cap, hsz, Nat.mul_one], ⟨List.replicate (c - bs.size) (.int .u8 0), ?_⟩, ?_⟩
        · rw [hb, List.map_map]
          simp only [bytesRow, Array.toList_append, Array.toList_map, Array.toList_replicate]
          rfl
        · rw [hb, scL_iff]; intro x hx; obtain ⟨y, _, rfl⟩ := List.mem_map.1 hx; trivial
    | _ => cases k13
  obtain ⟨u, h3, rfl, rfl⟩ := retV_some h2
  refine .pure hs ?_ trivial
  have key : (convert src dt (a.eval x)).run tb.p w = .ok u w := by
    rw [e1]
    rcases orE_some h3 with h4 | h4
    · obtain ⟨k, n, rfl, h5⟩ := asInt_some h4
      obtain ⟨i, h6, h7⟩ := ob_some.1 h5
      obtain ⟨j, h8, h9⟩ := ob_some.1 h7
      obtain ⟨q, h10, h11⟩ := intK_some h9
      cases h11
      obtain ⟨d, d1, _, _⟩ := (hT src i h6).desc
      obtain ⟨d', d1', _, d2'⟩ := (hT dt j h8).desc
      rw [h10] at d2'
      obtain rfl := kind_int d2'
      simp only [convert, Sem.run_bind, run_underlying d1 w, run_underlying d1' w, Result.andThen_ok, den]
      rw [wrapK_eq]; rfl
    · obtain ⟨z, rfl, h5⟩ := asV_some h4
      exact semV_run h5 w
  simp [execOp, key, den]

theorem op_build {bt : TypeId} {ps : Array (Nat × Operand)} (h : oBuild tb bt ps call cx t s = some (.ok v s')) (hs : SatH w0 ρ cx s w) (hv : Vals tb ρ s.n a t (.build bt ps)) :
    OpRes tb.p w0 ρ cx s w (execOp a.eval ⟨dst, .build bt ps, ty, pos, af, g⟩) v s' := by
  obtain ⟨i, h1, h2⟩ := ob_some.1 h
  obtain ⟨pl, h3, h4⟩ := ob_some.1 h2
  obtain ⟨r, h5, h6⟩ := ob_some.1 h4
  obtain ⟨c, h7, h8⟩ := ob_some.1 h6
  obtain ⟨rfl, rfl⟩ := ret_some h8
  have hi := hT bt i h1
  obtain ⟨p1, p2⟩ := parts_ok h5 hv (fun p hp => by simp [Op.operands]; exact ⟨p.1, by simpa using hp⟩)
  obtain ⟨d, d1, _, d2⟩ := hi.desc
  obtain ⟨j, j1, _, _, j2⟩ := hi.inf
  have hz : (zeroOf i).cells.toList = (mapV i.zero).map (den ρ) := by rw [denV]; exact hi.zero
  have fin : ∀ pl', (∀ i q, pl i = some q → pl' i = some q) → tb.p.built bt (ps.map fun (i, x) => (i, a.eval x)).toList = Instr.fill pl' (zeroOf i).cells (ps.map fun (i, x) => (i, a.eval x)).toList →
      OpRes tb.p w0 ρ cx s' w (execOp a.eval ⟨dst, .build bt ps, ty, pos, af, g⟩) (.agg c) s' := by
    intro pl' hpl hb
    obtain ⟨cs', f1, f2, f3, _⟩ := fill_ok (s := s') (ρ := ρ) hpl r (mapV i.zero) c (zeroOf i).cells h7 hz (scV _ _) p2
    refine .pure hs ?_ f3
    rw [p1, f1] at hb
    have := run_build w bt (ps.map fun (i, x) => (i, a.eval x)) cs' (by rw [p1]; exact hb)
    simp only [execOp, Sem.run_bind, this, Result.andThen_ok, Sem.run_pure]
    congr 2
    simp only [den, denL_eq, ← f2]
  cases hk : i.k with
  | arr n e =>
    rw [hk] at h3 d2
    obtain rfl := kind_arr d2
    obtain ⟨ei, h9, h10⟩ := ob_some.1 h3
    cases h10
    obtain ⟨je, k1, k2, _, _⟩ := (hT e ei h9).inf
    refine fin (fun i => some (i * je.size, je.size)) (fun i q hq => by rw [← hq]; simp only [plA, k2]) ?_
    simp only [Program.built, j1, d1, j2, k1]
  | struct fs =>
    rw [hk] at h3 d2
    obtain ⟨fields, rfl, d3, d4⟩ := kind_struct d2
    cases h3
    have hm : fields.toList.mapM (fun f => (tb.p.info? f.type).map fun i => (f.offset, i.size)) = some (fields.toList.map fun f => (f.offset, tb.p.cellsOf f.type)) := by
      refine mapM_some_all _ fun f hf => ?_
      obtain ⟨jf, hj⟩ := info_of_und (d3 f (by simpa using hf))
      simp [hj, Program.cellsOf]
    refine fin ((fields.toList.map fun f => (f.offset, tb.p.cellsOf f.type)).toArray[·]?) (fun i q hq => ?_) ?_
    · change ob (nth fs i) _ = some q at hq
      obtain ⟨f, q1, q2⟩ := ob_some.1 hq
      cases q2
      rw [nth_eq, d4, List.getElem?_map, Option.map_eq_some_iff] at q1
      obtain ⟨fl, q3, q4⟩ := q1
      subst q4
      simp [q3]
    · simp only [Program.built, j1, d1, j2, hm]
  | _ => rw [hk] at h3; cases h3

theorem op_buildSlice {bt : TypeId} {n : Nat} {ps : Array (Nat × Operand)} (h : oBuildS tb bt n ps call cx t s = some (.ok v s')) (hs : SatH w0 ρ cx s w) (hv : Vals tb ρ s.n a t (.buildSlice bt n ps)) :
    OpRes tb.p w0 ρ cx s w (execOp a.eval ⟨dst, .buildSlice bt n ps, ty, pos, af, g⟩) v s' := by
  obtain ⟨i, h1, h2⟩ := ob_some.1 h
  obtain ⟨e, hk, h3⟩ := elemK_some h2
  obtain ⟨ei, h4, h5⟩ := ob_some.1 h3
  obtain ⟨hn, h6⟩ := gd_some.1 h5
  obtain ⟨r, h7, h8⟩ := ob_some.1 h6
  obtain ⟨c, h9, h10⟩ := ob_some.1 h8
  obtain ⟨rfl, rfl⟩ := ret_some h10
  rw [ble_iff] at hn
  obtain ⟨d, d1, _, d2⟩ := (hT bt i h1).desc
  rw [hk] at d2
  obtain rfl := kind_slice d2
  have hei := hT e ei h4
  obtain ⟨p1, p2⟩ := parts_ok h7 hv (fun p hp => by simp [Op.operands]; exact ⟨p.1, by simpa using hp⟩)
  have hcs : (zeroOf ei).cells.size = ei.size := by rw [← Array.length_toList, hei.zero, hei.len]
  have hR : ((Array.range (n * ei.size)).map ((zeroOf ei).cells[· % (zeroOf ei).cells.size]!)).toList = (repl n (mapV ei.zero)).map (den ρ) := by
    rw [range_zero ei.size _ hcs n, repl_eq, List.map_flatten, List.map_replicate, denV, hei.zero]
  have hsR : ScL s.n (repl n (mapV ei.zero)) := by
    rw [repl_eq, scL_iff]
    intro x hx
    obtain ⟨l, h11, h12⟩ := List.mem_flatten.1 hx
    rw [List.eq_of_mem_replicate h11] at h12
    exact (scL_iff _ _).1 (scV _ _) x h12
  obtain ⟨cs', f1, f2, f3, _⟩ := fill_ok (s := s) (ρ := ρ) (pl' := fun i => some (i * ei.size, ei.size)) (fun i q hq => hq) r (repl n (mapV ei.zero)) c _ h9 hR hsR p2
  refine ⟨_, _, .inl ?_, new_row hs f3 cs' e f2, ⟨Nat.lt_succ_self _, hs.good _ (Nat.le_refl _)⟩⟩
  rw [← p1] at f1
  simp only [execOp, Instr.buildSlice, Sem.run_bind, run_underlying d1 w, Result.andThen_ok, hei.run_size w]
  rw [if_neg (by omega)]
  simp only [Sem.run_bind, Sem.run_pure, Result.andThen_ok]
  by_cases hz : n * ei.size = 0
  · simp only [if_pos hz, Sem.run_pure, Result.andThen_ok]
    have hr0 : (Array.range (n * ei.size)).map ((zeroOf ei).cells[· % (zeroOf ei).cells.size]!) = (Array.range (n * ei.size)).map ((#[] : Array Value)[· % (#[] : Array Value).size]!) := by rw [hz, Array.range_zero', Array.map_empty, Array.map_empty]
    rw [hr0] at f1
    simp only [f1, Go.newRow, Sem.run_bind, run_newObj, Result.andThen_ok, Sem.run_pure, den, Env.add_blk, Env.add_off]
    rfl
  · simp only [if_neg hz, Sem.run_bind, hei.run_zero w, Result.andThen_ok, Sem.run_pure]
    simp only [f1, Go.newRow, Sem.run_bind, run_newObj, Result.andThen_ok, Sem.run_pure, den, Env.add_blk, Env.add_off]
    rfl
end
end Ev
end Go.Proofs.YtipjmaimjchckaaGreatDoor

/-! THE OPERATIONS ARE RIGHT: make, slice expressions, ranging over strings. -/
set_option linter.unusedSimpArgs false
set_option linter.unusedVariables false
set_option linter.unusedSectionVars false
namespace Go.Proofs.YtipjmaimjchckaaGreatDoor
open Go.RowKit
namespace Ev
variable [Gh]
section
variable {tb : Tab} {w0 : World} {ρ : Env} {cx : Cx} {s s' : Hs} {w : World} {a : Act} {t : TE} {call : CallT} {v : AV}
  {dst : Option Tmp} {ty : TypeId} {pos : String} {af : Array Edge} {g : Option (Nat × Bool)} {P : Program}

theorem bound_some {β : Type} {o : Option Operand} {d : Nat} {k : Nat → Option β} {r : β} {op : Op} (h : bound tb t o d k = some r) (hv : Vals tb ρ s.n a t op) (ho : ∀ x, o = some x → x ∈ op.operands) :
    ∃ n, k n = some r ∧ ((o = none ∧ n = d) ∨ ∃ x q, o = some x ∧ a.eval x = .int q n) := by
  cases o with
  | none => exact ⟨d, h, .inl ⟨rfl, rfl⟩⟩
  | some x =>
    obtain ⟨X, h1, h2⟩ := ob_some.1 h
    obtain ⟨q, n, rfl, h3⟩ := asNat_some h2
    exact ⟨n, h3, .inr ⟨x, q, rfl, (hv x (ho x rfl) _ h1).2⟩⟩
theorem run_sliceBound {q : IntKind} {n y : Nat} (c : BoundsCode) (h : n ≤ y) (w : World) : (Instr.sliceBound (.int q n) y c).run P w = .ok n w := by
  simp only [Instr.sliceBound, Go.asIntOf, Sem.run_bind, Sem.run_pure, Result.andThen_ok]
  rw [if_pos ⟨by omega, by omega⟩]
  rfl
theorem isNone_iff {α : Type} {o : Option α} : isNone o = true ↔ o = none := by cases o <;> simp [isNone]

/-- The bounds of a slice expression. -/
theorem sliceK_some {lo hi mx : Option Operand} {n c : Nat} {k : Nat → Nat → Nat → Option AV} {r : AV} {op : Op} (h : sliceK tb t lo hi mx n c k = some r) (hv : Vals tb ρ s.n a t op)
    (h1 : ∀ x, lo = some x → x ∈ op.operands) (h2 : ∀ x, hi = some x → x ∈ op.operands) (h3 : ∀ x, mx = some x → x ∈ op.operands) :
    ∃ l h m, k l h m = some r ∧ l ≤ h ∧ h ≤ m ∧ m ≤ c ∧ ∀ isS w, (Instr.sliceBounds isS n c (lo.map a.eval) (hi.map a.eval) (mx.map a.eval)).run P w = .ok (l, h, m) w := by
  obtain ⟨hc, h⟩ := gd_some.1 h
  obtain ⟨m, h4, h5⟩ := bound_some h hv h3
  obtain ⟨h6, h7⟩ := gd_some.1 h4
  obtain ⟨hh, h8, h9⟩ := bound_some h7 hv h2
  obtain ⟨h10, h11⟩ := gd_some.1 h8
  obtain ⟨l, h12, h13⟩ := bound_some h11 hv h1
  obtain ⟨h14, h15⟩ := gd_some.1 h12
  rw [ble_iff] at h6 h10 h14
  refine ⟨l, hh, m, h15, h14, h10, h6, fun isS w => ?_⟩
  have e1 : ∀ cd : BoundsCode, (match mx.map a.eval with | some v => Instr.sliceBound v c cd | none => (pure c : Sem Nat)).run P w = .ok m w := by
    intro cd
    rcases h5 with ⟨rfl, rfl⟩ | ⟨x, q, rfl, e⟩
    · rfl
    · simp only [Option.map_some, e]; exact run_sliceBound cd h6 w
  rcases h5 with ⟨rfl, rfl⟩ | ⟨x, q, rfl, e⟩
  · rcases h9 with ⟨rfl, rfl⟩ | ⟨x2, q2, rfl, e2⟩
    · rcases h13 with ⟨rfl, rfl⟩ | ⟨x3, q3, rfl, e3⟩
      · simp [Instr.sliceBounds]
      · simp [Instr.sliceBounds, e3, run_sliceBound _ h14]
    · rcases h13 with ⟨rfl, rfl⟩ | ⟨x3, q3, rfl, e3⟩
      · simp [Instr.sliceBounds, e2, run_sliceBound _ h10]
      · simp [Instr.sliceBounds, e2, e3, run_sliceBound _ h14, run_sliceBound _ h10]
  · rcases h9 with ⟨rfl, rfl⟩ | ⟨x2, q2, rfl, e2⟩
    · cases hc
    · rcases h13 with ⟨rfl, rfl⟩ | ⟨x3, q3, rfl, e3⟩
      · simp [Instr.sliceBounds, e, e2, run_sliceBound _ h10, run_sliceBound _ h6]
      · simp [Instr.sliceBounds, e, e2, e3, run_sliceBound _ h14, run_sliceBound _ h10, run_sliceBound _ h6]

theorem slOf_den (b off l h m z : Nat) : den ρ (slOf b off l h m z) = .slice (some (if m = l then ⟨ρ.blk b, ρ.off b + off, none⟩ else (⟨ρ.blk b, ρ.off b + off, none⟩ : Addr).add (l * z))) (h - l) (m - l) := by
  unfold slOf
  simp only [den]
  by_cases e : m = l
  · rw [if_pos e]
    have : Nat.beq m l = true := beq_iff.2 e
    rw [this]
  · rw [if_neg e, addr_add]
    have : Nat.beq m l = false := by cases hq : Nat.beq m l; rfl; exact absurd (beq_iff.1 hq) e
    rw [this, Nat.add_assoc]

theorem mapO_opt {o : Option Operand} {op : Op} {r : List AV} {u : List Value} (h : mapO (opd tb t) o.toList = some r) (h' : mapO toV r = some u) (hv : Vals tb ρ s.n a t op) (ho : ∀ x, o = some x → x ∈ op.operands) :
    o.map a.eval = u.head? := by
  cases o with
  | none => cases h; cases h'; rfl
  | some x =>
    change ob (opd tb t x) (fun v => ob (some []) (fun vs => some (v :: vs))) = some r at h
    obtain ⟨X, h1, h2⟩ := ob_some.1 h
    cases h2
    change ob (toV X) (fun v => ob (some []) (fun vs => some (v :: vs))) = some u at h'
    obtain ⟨U, h3, h4⟩ := ob_some.1 h'
    cases h4
    simp only [Option.map_some, List.head?_cons, (hv x (ho x rfl) X h1).2, toV_some h3 ρ]

theorem run_getIter {r : Nat} {bs : ByteArray} {p : Nat} (h : w.heap[r]? = some (.stringIter bs p)) : (getObj r).run P w = .ok (.stringIter bs p) w := by
  unfold getObj Sem.run; rw [h]; rfl
theorem run_setIter {r : Nat} {bs : ByteArray} {p : Nat} (h : w.heap[r]? = some (.stringIter bs p)) (o : Obj) : (setObj r o).run P w = .ok () { w with heap := w.heap.setIfInBounds r o } := by
  unfold setObj Sem.run; rw [h]; rfl

variable (hT : ∀ t i, tb.ty.get t = some i → TyOk tb.p t i)
include hT

theorem op_slice {e : TypeId} {x : Operand} {lo hi mx : Option Operand} (h : oSlice tb e x lo hi mx call cx t s = some (.ok v s')) (hs : SatH w0 ρ cx s w) (hv : Vals tb ρ s.n a t (.slice e x lo hi mx)) :
    OpRes tb.p w0 ρ cx s w (execOp a.eval ⟨dst, .slice e x lo hi mx, ty, pos, af, g⟩) v s' := by
  obtain ⟨i, h1, h2⟩ := ob_some.1 h
  obtain ⟨X, h3, h4⟩ := ob_some.1 h2
  obtain ⟨h5, rfl⟩ := retO_some h4
  obtain ⟨p1, p2⟩ := hv x (by simp [Op.operands]) X h3
  obtain ⟨d, d1, _, d2⟩ := (hT e i h1).desc
  have m1 : ∀ y, lo = some y → y ∈ (Op.slice e x lo hi mx).operands := fun y hy => by simp [Op.operands, hy]
  have m2 : ∀ y, hi = some y → y ∈ (Op.slice e x lo hi mx).operands := fun y hy => by simp [Op.operands, hy]
  have m3 : ∀ y, mx = some y → y ∈ (Op.slice e x lo hi mx).operands := fun y hy => by simp [Op.operands, hy]
  rcases orE_some h5 with h6 | h6
  · cases hk : i.k with
    | slice el =>
      rw [hk] at h6 d2
      obtain rfl := kind_slice d2
      obtain ⟨ei, h7, h8⟩ := ob_some.1 h6
      have hsz := (hT el ei h7).run_size w
      cases X with
      | sl b off n c =>
        obtain ⟨l, hh, m, k1, k2, k3, k4, k5⟩ := sliceK_some (P := tb.p) h8 hv m1 m2 m3
        cases k1
        refine .pure hs ?_ p1
        simp only [execOp, Instr.sliceAt, Sem.run_bind, run_underlying d1 w, Result.andThen_ok, p2, den, Instr.slice, k5, hsz, Sem.run_pure]
        rw [slOf_den]
        by_cases e : m = l
        · rw [if_pos e, if_pos e]
        · rw [if_neg e, if_neg e]; rfl
      | slU b off n dk =>
        obtain ⟨hmx, h9⟩ := gd_some.1 h8
        obtain rfl := isNone_iff.1 hmx
        obtain ⟨o, h10, h11⟩ := ob_some.1 h9
        have hh := hs.obj b o h10
        cases o with
        | rowU c es =>
          obtain ⟨h12, h13⟩ := gd_some.1 h11
          rw [band_eq, Bool.and_eq_true, beq_iff, beq_iff] at h12
          obtain ⟨rfl, rfl⟩ := h12
          obtain ⟨q0, q1, cc, el', fr, q2, q3, q4, ⟨rest, q5⟩, q6⟩ := hh
          obtain ⟨hb, h14, h15⟩ := bound_some h13 hv m2
          obtain ⟨h16, h17⟩ := gd_some.1 h14
          obtain ⟨l, h18, h19⟩ := bound_some h17 hv m1
          obtain ⟨h20, h21⟩ := gd_some.1 h18
          obtain ⟨h22, h23⟩ := gd_some.1 h21
          cases h23
          rw [band_eq, Bool.and_eq_true, ble_iff, bor_eq, Bool.or_eq_true, beq_iff, ble_iff] at h20
          obtain ⟨h24, h25⟩ := h20
          rw [ble_iff] at h16 h22
          rw [len_eq] at h22
          have hcap : dk + n ≤ ρ.cap b := by
            have : c.length ≤ cc.size := by rw [← Array.length_toList, q5]; simp
            exact Nat.le_of_mul_le_mul_right (by omega) q1
          refine .pure hs ?_ p1
          have hbounds : (Instr.sliceBounds true n (ρ.cap b - dk) (lo.map a.eval) (hi.map a.eval) none).run tb.p w = .ok (l, hb, ρ.cap b - dk) w := by
            have b1 : hb ≤ ρ.cap b - dk := by omega
            rcases h15 with ⟨rfl, rfl⟩ | ⟨x2, q2, rfl, e2⟩ <;> rcases h19 with ⟨rfl, rfl⟩ | ⟨x3, q3, rfl, e3⟩
            · simp [Instr.sliceBounds]
            · simp [Instr.sliceBounds, e3, run_sliceBound _ h24]
            · simp [Instr.sliceBounds, e2, run_sliceBound _ b1]
            · simp [Instr.sliceBounds, e2, e3, run_sliceBound _ h24, run_sliceBound _ b1]
          simp only [execOp, Instr.sliceAt, Sem.run_bind, run_underlying d1 w, Result.andThen_ok, p2, den, Instr.slice, Option.map_none, hbounds, hsz, Sem.run_pure]
          congr 3
          · rw [q0]
            split
            · rename_i hm
              have : l = 0 := by omega
              subst this
              simp
            · simp only [Option.map_some, addr_add, Nat.add_assoc]
          · omega
        | _ => cases h11
      | _ => cases h8
    | arr n el =>
      rw [hk] at h6 d2
      obtain rfl := kind_arr d2
      obtain ⟨ei, h7, h8⟩ := ob_some.1 h6
      have hsz := (hT el ei h7).run_size w
      obtain ⟨b, off, rfl, h9⟩ := asPtr_some h8
      obtain ⟨l, hh, m, k1, k2, k3, k4, k5⟩ := sliceK_some (P := tb.p) h9 hv m1 m2 m3
      cases k1
      refine .pure hs ?_ p1
      simp only [execOp, Instr.sliceAt, Sem.run_bind, run_underlying d1 w, Result.andThen_ok, p2, den, Instr.sureAddr, k5, hsz, Sem.run_pure]
      rw [slOf_den]
    | _ => rw [hk] at h6; cases h6
  · obtain ⟨z, rfl, h7⟩ := asV_some h6
    obtain ⟨lo', h8, h9⟩ := ob_some.1 h7
    obtain ⟨hi', h10, h11⟩ := ob_some.1 h9
    obtain ⟨lo2, h12, h13⟩ := ob_some.1 h11
    obtain ⟨hi2, h14, h15⟩ := ob_some.1 h13
    obtain ⟨hmx, h16⟩ := gd_some.1 h15
    obtain rfl := isNone_iff.1 hmx
    obtain ⟨u, h17, h18⟩ := ob_some.1 h16
    cases h18
    refine .pure hs ?_ trivial
    have := semV_run h17 w
    rw [← mapO_opt h8 h12 hv m1, ← mapO_opt h10 h14 hv m2] at this
    simp only [execOp, Sem.run_bind, p2, den, Option.map_none, this, Result.andThen_ok, Sem.run_pure]

theorem op_makeSlice {e : TypeId} {x y : Operand} (h : oMakeS tb e x y call cx t s = some (.ok v s')) (hs : SatH w0 ρ cx s w) (hv : Vals tb ρ s.n a t (.makeSlice e x y)) :
    OpRes tb.p w0 ρ cx s w (execOp a.eval ⟨dst, .makeSlice e x y, ty, pos, af, g⟩) v s' := by
  obtain ⟨i, h1, h2⟩ := ob_some.1 h
  obtain ⟨el, hk, h3⟩ := elemK_some h2
  obtain ⟨ei, h4, h5⟩ := ob_some.1 h3
  obtain ⟨X, h6, h7⟩ := ob_some.1 h5
  obtain ⟨Y, h8, h9⟩ := ob_some.1 h7
  obtain ⟨q, l, rfl, h10⟩ := asNat_some h9
  obtain ⟨q', c, rfl, h11⟩ := asNat_some h10
  obtain ⟨h12, h13⟩ := gd_some.1 h11
  obtain ⟨rfl, rfl⟩ := ret_some h13
  rw [band_eq, band_eq, Bool.and_eq_true, Bool.and_eq_true, ble_iff, ble_iff, ble_iff] at h12
  obtain ⟨b1, b2, b3⟩ := h12
  obtain ⟨_, p1⟩ := hv x (by simp [Op.operands]) _ h6
  obtain ⟨_, p2⟩ := hv y (by simp [Op.operands]) _ h8
  obtain ⟨d, d1, _, d2⟩ := (hT e i h1).desc
  rw [hk] at d2
  obtain rfl := kind_slice d2
  have hei := hT el ei h4
  obtain ⟨j, j1, j2, j3, _⟩ := hei.run_typeInfo w
  have wl : IntKind.i64.wrap (l : Int) = l := inK_wrap .i64 l (by show Nat.ble l _ = true; rw [ble_iff]; show l ≤ 9223372036854775807; omega)
  have wc : IntKind.i64.wrap (c : Int) = c := inK_wrap .i64 c (by show Nat.ble c _ = true; rw [ble_iff]; show c ≤ 9223372036854775807; omega)
  have hcs : (zeroOf ei).cells.size = ei.size := by rw [← Array.length_toList, hei.zero, hei.len]
  have hR : ((Array.range (c * ei.size)).map ((zeroOf ei).cells[· % (zeroOf ei).cells.size]!)).toList = (repl c (mapV ei.zero)).map (den ρ) := by
    rw [range_zero ei.size _ hcs c, repl_eq, List.map_flatten, List.map_replicate, denV, hei.zero]
  have hsR : ScL s.n (repl c (mapV ei.zero)) := by
    rw [repl_eq, scL_iff]
    intro x hx
    obtain ⟨l, h11, h12⟩ := List.mem_flatten.1 hx
    rw [List.eq_of_mem_replicate h11] at h12
    exact (scL_iff _ _).1 (scV _ _) x h12
  refine ⟨_, _, .inl ?_, new_row hs hsR _ el hR, ⟨Nat.lt_succ_self _, hs.good _ (Nat.le_refl _)⟩⟩
  have hbig : ¬ (((c : Int) < 0 ∨ (2 : Int) ^ 48 < (ei.bytes : Int) * (c : Int))) := by
    have e48 : (2 : Int) ^ 48 = 281474976710656 := by decide
    rw [e48]
    have : (ei.bytes : Int) * (c : Int) = ((c * ei.bytes : Nat) : Int) := by rw [Nat.mul_comm]; simp
    rw [this]; omega
  simp only [execOp, Instr.makeSlice, Sem.run_bind, run_underlying d1 w, Result.andThen_ok, p1, p2, den, Go.asInt, Go.asIntOf, Sem.run_pure, j1, j3, wl, wc]
  rw [if_neg (by
    simp only [Bool.or_eq_true, decide_eq_true_eq, not_or]
    have e48 : (2 : Int) ^ 48 = 281474976710656 := by decide
    have : (ei.bytes : Int) * (c : Int) = ((c * ei.bytes : Nat) : Int) := by rw [Nat.mul_comm]; simp
    simp only [e48, this]
    omega)]
  simp only [Sem.run_bind, run_askRoom, hei.run_size w, Result.andThen_ok, Int.toNat_natCast]
  by_cases hz : c * ei.size = 0
  · simp only [if_pos hz, Sem.run_pure, Result.andThen_ok]
    have hr0 : (Array.range (c * ei.size)).map ((zeroOf ei).cells[· % (zeroOf ei).cells.size]!) = (Array.range (c * ei.size)).map ((#[] : Array Value)[· % (#[] : Array Value).size]!) := by rw [hz, Array.range_zero', Array.map_empty, Array.map_empty]
    rw [hr0]
    simp only [Go.newRow, Sem.run_bind, run_newObj, Result.andThen_ok, Sem.run_pure, Env.add_blk, Env.add_off]
    rfl
  · simp only [if_neg hz, Sem.run_bind, hei.run_zero w, Result.andThen_ok, Sem.run_pure]
    simp only [Go.newRow, Sem.run_bind, run_newObj, Result.andThen_ok, Sem.run_pure, Env.add_blk, Env.add_off]
    rfl

theorem op_range {e : TypeId} {x : Operand} (h : oRange tb e x call cx t s = some (.ok v s')) (hs : SatH w0 ρ cx s w) (hv : Vals tb ρ s.n a t (.range e x)) :
    OpRes tb.p w0 ρ cx s w (execOp a.eval ⟨dst, .range e x, ty, pos, af, g⟩) v s' := by
  obtain ⟨i, h1, h2⟩ := ob_some.1 h
  obtain ⟨hk, h3⟩ := gd_some.1 h2
  obtain ⟨X, h4, h5⟩ := ob_some.1 h3
  obtain ⟨z, rfl, h6⟩ := asV_some h5
  obtain ⟨_, p1⟩ := hv x (by simp [Op.operands]) _ h4
  obtain ⟨d, d1, _, d2⟩ := (hT e i h1).desc
  have hd : d = .string := by
    cases hq : i.k <;> rw [hq] at hk d2 <;> first | (cases hk; done) | exact kind_str d2
  subst hd
  cases z with
  | string bs =>
    obtain ⟨rfl, rfl⟩ := ret_some h6
    refine ⟨_, _, .inl ?_, hs.alloc (.stringIter bs 0) (.iter bs 0) 0 ⟨Env.add_off _ _ _ _, ?_⟩, ⟨Nat.lt_succ_self _, hs.good _ (Nat.le_refl _)⟩⟩
    · simp only [execOp, Instr.range, Sem.run_bind, run_underlying d1 w, Result.andThen_ok, p1, den, Sem.run_pure, run_newObj, Env.add_blk, Env.add_off]
      rfl
    · rw [Env.add_blk]
      show (w.heap.push _)[w.heap.size]? = _
      simp
  | _ => cases h6

theorem op_next {x : Operand} {isS : Bool} (h : oNext tb x isS call cx t s = some (.ok v s')) (hs : SatH w0 ρ cx s w) (hv : Vals tb ρ s.n a t (.next x isS)) :
    OpRes tb.p w0 ρ cx s w (execOp a.eval ⟨dst, .next x isS, ty, pos, af, g⟩) v s' := by
  obtain ⟨rfl, h2⟩ := gd_some.1 h
  obtain ⟨X, h3, h4⟩ := ob_some.1 h2
  obtain ⟨b, off, rfl, h5⟩ := asPtr_some h4
  obtain ⟨h6, h7⟩ := gd_some.1 h5
  obtain ⟨o, h8, h9⟩ := ob_some.1 h7
  rw [band_eq, Bool.and_eq_true, beq_iff, ble_iff] at h6
  obtain ⟨rfl, hf⟩ := h6
  obtain ⟨p0, p1⟩ := hv x (by simp [Op.operands]) _ h3
  have hh := hs.obj b o h8
  cases o with
  | iter bs pos =>
    obtain ⟨q0, q1⟩ := hh
    have hlen : bs.data.toList.length = bs.size := Array.length_toList
    change nextS bs pos b s = some (.ok v s') at h9
    unfold nextS at h9
    cases hn : nth bs.data.toList pos with
    | none =>
      rw [hn] at h9
      obtain ⟨h10, h11⟩ := gd_some.1 h9
      obtain ⟨rfl, rfl⟩ := ret_some h11
      rw [beq_iff, len_eq, hlen] at h10
      refine .pure hs ?_ trivial
      simp only [execOp, Instr.next, Sem.run_bind, p1, den, q0, Nat.zero_add, run_getIter q1, Result.andThen_ok]
      rw [if_neg (by omega)]
      rfl
    | some c =>
      rw [hn] at h9
      obtain ⟨h10, h11⟩ := gd_some.1 h9
      obtain ⟨rfl, rfl⟩ := ret_some h11
      rw [ble_iff] at h10
      rw [nth_eq] at hn
      have hp : pos < bs.size := by rw [← hlen]; exact (List.getElem?_eq_some_iff.1 hn).1
      have hc : bs[pos]'hp = c := by
        have h12 := (List.getElem?_eq_some_iff.1 hn).2
        rw [← h12]; rfl
      have hdec := decode_ascii bs pos hp (by rw [hc]; omega)
      rw [hc] at hdec
      refine ⟨ρ, { w with heap := w.heap.setIfInBounds (ρ.blk b) (.stringIter bs (pos + 1)) }, .inl ?_, hs.put h8 hf ⟨rfl, rfl, rfl, by simp, fun k hk => by simp [Array.getElem?_setIfInBounds_ne (Ne.symm hk)]⟩ ⟨q0, ?_⟩, trivial⟩
      · simp only [execOp, Instr.next, Sem.run_bind, p1, den, q0, Nat.zero_add, run_getIter q1, Result.andThen_ok]
        rw [if_pos hp, hdec]
        simp only [Sem.run_bind, run_setIter q1, Result.andThen_ok, Sem.run_pure]
        rfl
      · have : ρ.blk b < w.heap.size := (hs.obj b _ h8).lt
        simp [Array.getElem?_setIfInBounds_self_of_lt, this]
  | _ => cases h9
end
end Ev
end Go.Proofs.YtipjmaimjchckaaGreatDoor

/-! THE OPERATIONS ARE RIGHT: len, append, min, max. -/
set_option linter.unusedSimpArgs false
set_option linter.unusedVariables false
set_option linter.unusedSectionVars false
namespace Go.Proofs.YtipjmaimjchckaaGreatDoor
open Go.RowKit
namespace Ev
variable [Gh]
section
variable {tb : Tab} {w0 : World} {ρ : Env} {cx : Cx} {s s' : Hs} {w : World} {a : Act} {t : TE} {call : CallT} {v : AV}
  {dst : Option Tmp} {ty : TypeId} {pos : String} {af : Array Edge} {g : Option (Nat × Bool)} {P : Program}

omit [Gh] in
theorem two_some {α β : Type} {l : List α} {k : α → α → Option β} {r : β} (h : two l k = some r) : ∃ x y rest, l = x :: y :: rest ∧ k x y = some r := by
  cases l with
  | nil => cases h
  | cons x l => cases l with
    | nil => cases h
    | cons y l => exact ⟨x, y, l, rfl, h⟩

/-- How a call of a built-in is carried out. -/
theorem run_bi {b : Builtin} {args : Array Operand} {ts : Array TypeId} {r : Result Next}
    (h : (builtin b ts ty (args.map fun | .const _ => true | _ => false) (args.map a.eval)).run P w = r) : (execOp a.eval ⟨dst, .call ⟨.builtin b, args, ts⟩, ty, pos, af, g⟩).run P w = r := by
  simp only [execOp, resolve, Sem.run_bind, Sem.run_pure, Result.andThen_ok, invoke]
  exact h

/-- What is appended. -/
theorem srcC_some {z : Nat} {y : AV} {p : Nat × List AV} (h : srcC z cx s y = some p) (hs : SatH w0 ρ cx s w) (hy : Sc s.n y) :
    (∀ w', (Builtin.lenOf (den ρ y)).run P w' = .ok p.1 w') ∧ p.2.length = p.1 * z ∧ ScL s.n p.2 ∧
    ∀ w', (∀ a, w'.cell? a = w.cell? a) → (Builtin.firstCells z p.1 (den ρ y)).run P w' = .ok (p.2.map (den ρ)).toArray w' := by
  have key : ∀ b off n c, den ρ y = .slice (some ⟨ρ.blk b, ρ.off b + off, none⟩) n c → ob (s.look cx.hid b) (fun o => rowC o (fun c => ob (takeE (n * z) (dropN off c)) (fun l => some (n, l)))) = some p →
      (∀ w', (Builtin.lenOf (den ρ y)).run P w' = .ok p.1 w') ∧ p.2.length = p.1 * z ∧ ScL s.n p.2 ∧
      ∀ w', (∀ a, w'.cell? a = w.cell? a) → (Builtin.firstCells z p.1 (den ρ y)).run P w' = .ok (p.2.map (den ρ)).toArray w' := by
    intro b off n c hd h
    obtain ⟨o, h1, h2⟩ := ob_some.1 h
    obtain ⟨c', ho, h3⟩ := rowC_some h2
    obtain ⟨l, h4, h5⟩ := ob_some.1 h3
    cases h5
    rw [takeE_some, dropN_eq] at h4
    obtain ⟨h4, rfl⟩ := h4
    obtain ⟨k1, k2⟩ := holds_cell (hs.obj b o h1) ho
    have hl : ((c'.drop off).take (n * z)).length = n * z := by simp; simp at h4; omega
    refine ⟨fun w' => by rw [hd]; rfl, hl, ?_, fun w' hw => ?_⟩
    · rw [scL_iff] at k1 ⊢
      exact fun x hx => k1 x (List.mem_of_mem_drop (List.mem_of_mem_take hx))
    · rw [hd]
      have := run_loadCells_list (P := P) w' ⟨ρ.blk b, ρ.off b + off, none⟩ (((c'.drop off).take (n * z)).map (den ρ)) (fun j v hj => by
        rw [addr_add, Nat.add_assoc, hw]
        rw [List.getElem?_map] at hj
        obtain ⟨x, hx, rfl⟩ := Option.map_eq_some_iff.1 hj
        have hj2 : j < n * z := by have := (List.getElem?_eq_some_iff.1 hx).1; simp at this; omega
        rw [List.getElem?_take_of_lt hj2, List.getElem?_drop] at hx
        exact k2 _ _ hx)
      rw [List.length_map, hl] at this
      exact this
  cases y with
  | sl b off n c => exact key b off n c rfl h
  | slU b off n dk => exact key b off n _ rfl h
  | v y =>
    cases y with
    | string bs =>
      obtain ⟨h1, h2⟩ := gd_some.1 h
      cases h2
      rw [beq_iff] at h1
      subst h1
      have hlen : len bs.data.toList = bs.size := by rw [len_eq]; exact Array.length_toList
      have hb : byteCells bs.data.toList = bs.data.toList.map fun b => AV.v (.int .u8 b.toNat) := by
        generalize bs.data.toList = l
        induction l with
        | nil => rfl
        | cons x l ih => show AV.v (.int .u8 (Int.ofNat x.toNat)) :: byteCells l = _; rw [ih]; rfl
      refine ⟨fun w' => by simp only [den, Builtin.lenOf, hlen, Sem.run_pure], by simp only [hb, List.length_map, Nat.mul_one, len_eq], ?_, fun w' _ => ?_⟩
      · rw [hb, scL_iff]; intro x hx; obtain ⟨y, _, rfl⟩ := List.mem_map.1 hx; trivial
      · simp only [den, Builtin.firstCells, hlen, hb, Sem.run_pure]
        congr 1
        apply Array.ext'
        have e : (bs.extract 0 bs.size).data = bs.data := by rw [ByteArray.data_extract]; exact Array.extract_size
        rw [e]
        simp [den]
    | slice ad n c =>
      obtain ⟨h1, h2⟩ := gd_some.1 h
      obtain ⟨h3, h4⟩ := gd_some.1 h2
      cases h4
      obtain rfl := isNone_iff.1 h1
      rw [beq_iff] at h3
      subst h3
      exact ⟨fun w' => rfl, by simp, trivial, fun w' _ => rfl⟩
    | _ => cases h
  | _ => cases h

/-- An append that stays within the capacity. -/
theorem run_append_in {sT t2 ty e : TypeId} {d2 : TypeDesc} {i : TyI} {base : Option Addr} {n cap cnt : Nat} {x : Value} {new : Array Value} {w' : World} (ht : P.underlying sT = some (.slice e)) (ht2 : P.underlying t2 = some d2) (hn2 : ∀ k, d2 ≠ .int k)
    (hi : TyOk P e i) (hl : (Builtin.lenOf x).run P w = .ok cnt w) (hx : (Builtin.firstCells i.size cnt x).run P w = .ok new w) (hc : n + cnt ≤ cap)
    (hst : (match base with | some a => storeCells (a.add (n * i.size)) new.toList | none => (pure () : Sem Unit)).run P w = .ok () w') {rest : Array TypeId} {rest' : Array Value}
    {ts : Array TypeId} {as : Array Value} (hts0 : ts[0]? = some sT) (hts1 : ts[1]? = some t2) (has0 : as[0]? = some (.slice base n cap)) (has1 : as[1]? = some x) :
    (Builtin.append_ ts ty as).run P w = .ok (.slice base (n + cnt) cap) w' := by
  unfold Builtin.append_
  simp only [hts0, hts1, has0, has1, Sem.run_bind, run_underlying ht, Result.andThen_ok, hi.run_size w, run_underlying ht2]
  cases d2 <;> first
    | exact absurd rfl (hn2 _)
    | (simp only [Sem.run_pure, Sem.run_bind, Result.andThen_ok, Bool.false_eq_true, if_false, hl, Bool.not_false, if_true]
       rw [if_pos hc]
       simp only [Sem.run_bind, hx, Result.andThen_ok]
       cases base with
       | none => simp only [Sem.run_pure] at hst; cases hst; rfl
       | some a => simp only [Sem.run_bind, hst, Result.andThen_ok]; rfl)

/-- An append that makes a new row. -/
theorem run_append_out {sT t2 ty e : TypeId} {d2 : TypeDesc} {i : TyI} {base : Option Addr} {n cap cnt : Nat} {x : Value} {new old : Array Value} (ht : P.underlying sT = some (.slice e)) (ht2 : P.underlying t2 = some d2) (hn2 : ∀ k, d2 ≠ .int k)
    (hi : TyOk P e i) (hl : (Builtin.lenOf x).run P w = .ok cnt w) (hx : (Builtin.firstCells i.size cnt x).run P w.drew = .ok new w.drew) (ho : (Builtin.firstCells i.size n (.slice base n cap)).run P w.drew = .ok old w.drew) (hc : cap < n + cnt)
    (hb : (n + cnt) * i.bytes ≤ 140737488355328) (hb2 : n + cnt ≤ 70368744177664)
    {ts : Array TypeId} {as : Array Value} (hts0 : ts[0]? = some sT) (hts1 : ts[1]? = some t2) (has0 : as[0]? = some (.slice base n cap)) (has1 : as[1]? = some x) :
    ∃ c, n + cnt ≤ c ∧ (Builtin.append_ ts ty as).run P w = .ok (.slice (some ⟨w.heap.size, 0, none⟩) (n + cnt) c) (w.drew.alloc (.cells (old ++ new ++ Builtin.zeroCells (zeroOf i).cells (c - (n + cnt))) e)) := by
  obtain ⟨j, j1, j2, j3, _⟩ := hi.run_typeInfo w
  obtain ⟨j', j1', _, j3', _⟩ := hi.run_typeInfo w.drew
  have hcap : n + cnt ≤ grownCap w (n + cnt) cap e := by simp only [grownCap, Question.cut]; omega
  refine ⟨grownCap w (n + cnt) cap e, hcap, ?_⟩
  have h48 := growslice_fits hc hb
  have hmax : IntKind.i64.max = 9223372036854775807 := by decide
  have e48 : (2 : Nat) ^ 48 = 281474976710656 := by decide
  have hd : ({ w with drawn := w.drawn + 1 } : World) = w.drew := rfl
  unfold Builtin.append_
  simp only [hts0, hts1, has0, has1, Sem.run_bind, run_underlying ht, Result.andThen_ok, hi.run_size w, run_underlying ht2]
  cases d2 <;> first
    | exact absurd rfl (hn2 _)
    | (simp only [Sem.run_pure, Sem.run_bind, Result.andThen_ok, Bool.false_eq_true, if_false, hl, Bool.not_false, if_true]
       rw [if_neg (by omega)]
       simp only [Sem.run_bind, j1, Result.andThen_ok]
       rw [if_neg (by rw [hmax]; omega)]
       simp only [Sem.run_bind, j1, Result.andThen_ok, j3]
       rw [if_neg (by rw [e48]; omega)]
       simp only [Sem.run_bind, run_choose, Question.forced, Bool.false_eq_true, if_false, Result.andThen_ok]
       simp only [hd, j1', Result.andThen_ok, run_askRoom, ho, hx, hi.run_zero w.drew, Sem.run_pure, Go.newRow, Sem.run_bind, run_newObj]
       rfl)

theorem appended_row (hs : SatH w0 ρ cx s w) {cells : List AV} {old new : Array Value} {i : TyI} {e : TypeId} {c need : Nat} (hsc : ScL s.n cells) (hz : i.size ≠ 0) (hi : TyOk P e i) (hc : need ≤ c)
    (hl : cells.length = need * i.size) (hd : (old ++ new).toList = cells.map (den ρ)) :
    Stp w0 ρ (ρ.add s.n w.heap.size c) cx s ⟨setH s.h s.n (.rowU cells i.size), s.n + 1⟩ w (w.drew.alloc (.cells (old ++ new ++ Builtin.zeroCells (zeroOf i).cells (c - need)) e)) := by
  have h1 := hs.world (w₁ := w.drew) ((Below.refl _ _).drew)
  have hcs : (zeroOf i).cells.size = i.size := by rw [← Array.length_toList, hi.zero, hi.len]
  refine h1.trans (h1.sat.alloc _ (.rowU cells i.size) c ⟨Env.add_off _ _ _ _, by omega, old ++ new ++ Builtin.zeroCells (zeroOf i).cells (c - need), e, (0, 0), ?_, fun i _ h => by omega, ?_, ⟨(Builtin.zeroCells (zeroOf i).cells (c - need)).toList, ?_⟩, ScL.mono (Nat.le_succ _) _ hsc⟩)
  · rw [Env.add_blk]
    exact Array.getElem?_push_size
  · rw [Env.add_cap]
    have hsz : (old ++ new).size = need * i.size := by rw [← Array.length_toList, hd, List.length_map, hl]
    rw [Array.size_append, hsz]
    simp only [Builtin.zeroCells, Array.size_map, Array.size_range, hcs]
    rw [← Nat.add_mul]; congr 1; omega
  · rw [Array.toList_append, hd, ← denL_eq, ← denL_eq]
    congr 1
    exact (denL_ext (Env.add_ext _ _ _ _) cells hsc).symm

variable (hT : ∀ t i, tb.ty.get t = some i → TyOk tb.p t i)
include hT

theorem not_int {t2 : TypeId} {i2 : TyI} (h : tb.ty.get t2 = some i2) (hk : bnot (isIntK i2.k) = true) : ∃ d, tb.p.underlying t2 = some d ∧ ∀ k, d ≠ .int k := by
  obtain ⟨d, d1, _, d2⟩ := (hT t2 i2 h).desc
  refine ⟨d, d1, fun k e => ?_⟩
  subst e
  rw [← d2] at hk
  cases hk

theorem op_append {t1 t2 : TypeId} {x y : AV} {ts : Array TypeId} {as : Array Value} (h : biAppend2 tb t1 t2 x y cx s = some (.ok v s')) (hs : SatH w0 ρ cx s w) (hx : Sc s.n x) (hy : Sc s.n y)
    (hts0 : ts[0]? = some t1) (hts1 : ts[1]? = some t2) (has0 : as[0]? = some (den ρ x)) (has1 : as[1]? = some (den ρ y)) :
    ∃ ρ' w', (Builtin.append_ ts ty as).run tb.p w = .ok (den ρ' v) w' ∧ Stp w0 ρ ρ' cx s s' w w' ∧ Sc s'.n v := by
  obtain ⟨i, h1, h2⟩ := ob_some.1 h
  obtain ⟨e, hk, h3⟩ := elemK_some h2
  obtain ⟨ei, h4, h5⟩ := ob_some.1 h3
  obtain ⟨i2, h6, h7⟩ := ob_some.1 h5
  obtain ⟨h8, h9⟩ := gd_some.1 h7
  rw [band_eq, Bool.and_eq_true] at h8
  obtain ⟨hni, hz⟩ := h8
  have hz' : ei.size ≠ 0 := by intro e0; rw [e0] at hz; cases hz
  obtain ⟨p, h10, h11⟩ := ob_some.1 h9
  obtain ⟨d, d1, _, d2⟩ := (hT t1 i h1).desc
  rw [hk] at d2
  obtain rfl := kind_slice d2
  obtain ⟨dd, dd1, dd2⟩ := not_int hT h6 hni
  have hei := hT e ei h4
  obtain ⟨k1, k2, k3, k4⟩ := srcC_some (P := tb.p) h10 hs hy
  have k4w := k4 w (fun _ => rfl)
  have k4d := k4 w.drew (fun _ => rfl)
  cases x with
  | v x =>
    cases x with
    | slice ad n c =>
      obtain ⟨g1, h12⟩ := gd_some.1 h11
      obtain ⟨g2, h13⟩ := gd_some.1 h12
      obtain rfl := isNone_iff.1 g1
      rw [band_eq, Bool.and_eq_true, beq_iff, beq_iff] at g2
      obtain ⟨rfl, rfl⟩ := g2
      cases hq : Nat.beq p.1 0 with
      | true =>
        rw [hq] at h13
        obtain ⟨rfl, rfl⟩ := ret_some h13
        have hp0 := beq_iff.1 hq
        have := run_append_in (ty := ty) (base := none) (n := 0) (cap := 0) (w' := w) d1 dd1 dd2 hei (k1 w) k4w (by omega) rfl (rest := #[]) (rest' := #[]) hts0 hts1 has0 has1
        refine ⟨ρ, w, ?_, Stp.refl hs, trivial⟩
        rw [this, hp0]; rfl
      | false =>
        rw [hq] at h13
        have hp0 : p.1 ≠ 0 := fun e0 => by rw [beq_iff.2 e0] at hq; cases hq
        obtain ⟨g3, h14⟩ := gd_some.1 h13
        obtain ⟨rfl, rfl⟩ := ret_some h14
        rw [band_eq, Bool.and_eq_true, ble_iff, ble_iff] at g3
        obtain ⟨c, c1, c2⟩ := run_append_out (ty := ty) (base := none) (n := 0) (cap := 0) (old := #[]) d1 dd1 dd2 hei (k1 w) k4d rfl (by omega) (by rw [Nat.zero_add]; exact g3.1) (by omega) hts0 hts1 has0 has1
        rw [Nat.zero_add] at c1 c2
        refine ⟨_, _, ?_, appended_row (old := #[]) (new := (p.2.map (den ρ)).toArray) hs k3 hz' hei c1 k2 (by simp), ⟨Nat.lt_succ_self _, hs.good _ (Nat.le_refl _)⟩⟩
        rw [c2]
        simp only [den, Env.add_blk, Env.add_off, Env.add_cap, Nat.add_zero, Nat.sub_zero]
    | _ => cases h11
  | sl b off n c =>
    obtain ⟨g1, h12⟩ := gd_some.1 h11
    rw [band_eq, Bool.and_eq_true, ble_iff, ble_iff] at g1
    obtain ⟨o, h13, h14⟩ := ob_some.1 h12
    obtain ⟨cs, ho, h15⟩ := rowC_some h14
    cases hq : Nat.ble (n + p.1) c with
    | true =>
      rw [hq] at h15
      obtain ⟨hf, h16⟩ := gd_some.1 h15
      obtain ⟨cs', ho', h17⟩ := rowW_some h16
      obtain ⟨g2, h18⟩ := gd_some.1 h17
      obtain ⟨rfl, rfl⟩ := ret_some h18
      rw [band_eq, Bool.and_eq_true, ble_iff, len_eq, len_eq] at g2
      rw [ble_iff] at hf
      obtain ⟨w', r1, r2⟩ := write_row (off := off + n * ei.size) hT hs h13 hf ho' g2.1 g2.2 k3
      refine ⟨ρ, w', ?_, r2, hx⟩
      have := run_append_in (ty := ty) (base := some ⟨ρ.blk b, ρ.off b + off, none⟩) (n := n) (cap := c) (w' := w') d1 dd1 dd2 hei (k1 w) k4w (ble_iff.1 hq) (by simp only [addr_add, Nat.add_assoc]; rw [← Nat.add_assoc] at r1; simpa [Nat.add_assoc] using r1) (rest := #[]) (rest' := #[]) hts0 hts1 has0 has1
      rw [this]; rfl
    | false =>
      rw [hq] at h15
      have hc : c < n + p.1 := by
        rcases Nat.lt_or_ge c (n + p.1) with h | h
        · exact h
        · rw [ble_iff.2 h] at hq; cases hq
      obtain ⟨old, g2, h16⟩ := ob_some.1 h15
      obtain ⟨rfl, rfl⟩ := ret_some h16
      have hsrc : srcC ei.size cx s (.sl b off n c) = some (n, old) := by
        show ob (s.look cx.hid b) _ = _
        rw [ob_some]; refine ⟨o, h13, ?_⟩
        have : ∀ k : List AV → Option (Nat × List AV), rowC o k = k cs := by
          intro k; rcases ho with rfl | rfl | ⟨es, rfl⟩ <;> rfl
        rw [this, ob_some]; exact ⟨old, g2, rfl⟩
      obtain ⟨q1, q2, q3, q4⟩ := srcC_some (P := tb.p) hsrc hs hx
      have q4d := q4 w.drew (fun _ => rfl)
      obtain ⟨c', c1, c2⟩ := run_append_out (ty := ty) (base := some ⟨ρ.blk b, ρ.off b + off, none⟩) (n := n) (cap := c) d1 dd1 dd2 hei (k1 w) k4d q4d hc g1.1 g1.2 hts0 hts1 has0 has1
      refine ⟨_, _, ?_, appended_row (old := (old.map (den ρ)).toArray) (new := (p.2.map (den ρ)).toArray) hs (cells := app old p.2) ?_ hz' hei c1 ?_ ?_, ⟨Nat.lt_succ_self _, hs.good _ (Nat.le_refl _)⟩⟩
      · rw [c2]; simp only [den, Env.add_blk, Env.add_off, Env.add_cap, Nat.add_zero, Nat.sub_zero]
      · rw [app_eq, scL_iff]
        rw [scL_iff] at q3 k3
        intro z hz; rcases List.mem_append.1 hz with hz | hz
        · exact q3 z hz
        · exact k3 z hz
      · rw [app_eq, List.length_append, q2, k2, Nat.add_mul]
      · rw [app_eq]; simp
  | slU b off n dk =>
    obtain ⟨g1, h12⟩ := gd_some.1 h11
    rw [band_eq, Bool.and_eq_true, ble_iff, ble_iff] at g1
    obtain ⟨o, h13, h14⟩ := ob_some.1 h12
    have hh := hs.obj b o h13
    cases o with
    | rowU cs es =>
      obtain ⟨g2, h15⟩ := gd_some.1 h14
      rw [band_eq, Bool.and_eq_true, beq_iff, ble_iff] at g2
      obtain ⟨rfl, hf⟩ := g2
      obtain ⟨q0, q1, cc, el', fr, q2, q3, q4, ⟨rest, q5⟩, q6⟩ := id hh
      have hlen : cs.length ≤ ρ.cap b * ei.size := by rw [← q4, ← Array.length_toList, q5]; simp
      cases hq : Nat.ble (off + (n + p.1) * ei.size) (len cs) with
      | true =>
        rw [hq] at h15
        obtain ⟨g3, h16⟩ := gd_some.1 h15
        rw [beq_iff] at g3
        subst g3
        obtain ⟨g4, h17⟩ := gd_some.1 h16
        obtain ⟨rfl, rfl⟩ := ret_some h17
        rw [band_eq, Bool.and_eq_true, ble_iff, len_eq, len_eq] at g4
        have hle := ble_iff.1 hq
        rw [len_eq] at hle
        have hcap : n + p.1 ≤ ρ.cap b - dk := by
          have : (dk + (n + p.1)) * ei.size ≤ ρ.cap b * ei.size := by rw [Nat.add_mul]; omega
          have := Nat.le_of_mul_le_mul_right this q1
          omega
        obtain ⟨w', r1, r2⟩ := write_row (off := dk * ei.size + n * ei.size) hT hs h13 hf (.inr ⟨_, rfl⟩) g4.1 g4.2 k3
        refine ⟨ρ, w', ?_, r2, hx⟩
        have := run_append_in (ty := ty) (base := some ⟨ρ.blk b, ρ.off b + dk * ei.size, none⟩) (n := n) (cap := ρ.cap b - dk) (w' := w') d1 dd1 dd2 hei (k1 w) k4w hcap (by simp only [addr_add]; simpa [Nat.add_assoc] using r1) (rest := #[]) (rest' := #[]) hts0 hts1 has0 has1
        rw [this]; rfl
      | false =>
        rw [hq] at h15
        obtain ⟨g3, h16⟩ := gd_some.1 h15
        rw [band_eq, band_eq, Bool.and_eq_true, Bool.and_eq_true, beq_iff, beq_iff] at g3
        obtain ⟨rfl, rfl, hone⟩ := g3
        obtain ⟨old, g4, h17⟩ := ob_some.1 h16
        obtain ⟨rfl, rfl⟩ := ret_some h17
        have hsrc : srcC ei.size cx s (.slU b 0 n 0) = some (n, old) := by
          show ob (s.look cx.hid b) _ = _
          rw [ob_some]; refine ⟨_, h13, ?_⟩
          show ob (takeE (n * ei.size) (dropN 0 cs)) _ = _
          rw [ob_some]; exact ⟨old, g4, rfl⟩
        obtain ⟨r1, r2, r3, r4⟩ := srcC_some (P := tb.p) hsrc hs hx
        have r4d := r4 w.drew (fun _ => rfl)
        have hsc : ScL s.n (app old p.2) := by
          rw [app_eq, scL_iff]
          rw [scL_iff] at r3 k3
          intro z hz; rcases List.mem_append.1 hz with hz | hz
          · exact r3 z hz
          · exact k3 z hz
        have hln : (app old p.2).length = (n + p.1) * ei.size := by rw [app_eq, List.length_append, r2, k2, Nat.add_mul]
        by_cases hfit : n + p.1 ≤ ρ.cap b
        · -- in place
          rw [takeE_some] at g4
          obtain ⟨g5, g6⟩ := g4
          rw [allB_eq, List.all_eq_true] at hone
          obtain ⟨w', c', s1, s2, s3, s4, s5⟩ := run_storeCells (P := tb.p) (p.2.map (den ρ)) (n * ei.size) 0 cc w q2 q3 (fun v hv => by
            obtain ⟨x, hx, rfl⟩ := List.mem_map.1 hv
            exact isOne_den (hone x hx) ρ) (by
              rw [List.length_map, k2, q4, Nat.add_zero, ← Nat.add_mul]; exact Nat.mul_le_mul_right _ hfit)
          refine ⟨ρ.add s.n (ρ.blk b) (ρ.cap b), w', ?_, hs.move h13 hf s2 ?_, ⟨Nat.lt_succ_self _, hs.good _ (Nat.le_refl _)⟩⟩
          · have := run_append_in (ty := ty) (base := some ⟨ρ.blk b, ρ.off b + 0, none⟩) (n := n) (cap := ρ.cap b - 0) (w' := w') d1 dd1 dd2 hei (k1 w) k4w (by omega) (by simp only [addr_add, q0]; simpa using s1) (rest := #[]) (rest' := #[]) hts0 hts1 has0 has1
            rw [this]
            simp only [den, Env.add_blk, Env.add_off, Env.add_cap, Nat.add_zero, Nat.sub_zero, q0]
          · refine ⟨Env.add_off _ _ _ _, q1, c', el', fr, by rw [Env.add_blk]; exact s3, by rw [s4]; exact q3, by rw [s4, Env.add_cap]; exact q4, ⟨cc.toList.drop (n * ei.size + p.2.length), ?_⟩, ScL.mono (Nat.le_succ _) _ hsc⟩
            rw [s5]
            have e1 : (app old p.2).map (den (ρ.add s.n (ρ.blk b) (ρ.cap b))) = (app old p.2).map (den ρ) := by
              rw [← denL_eq, ← denL_eq]; exact denL_ext (Env.add_ext _ _ _ _) _ hsc
            rw [e1, app_eq, List.map_append, q5]
            have e2 : (cs.map (den ρ) ++ rest).take (n * ei.size + 0) = old.map (den ρ) := by
              rw [Nat.add_zero, List.take_append, List.length_map, show n * ei.size - cs.length = 0 by omega, List.take_zero, List.append_nil, g6, List.map_take]
            rw [e2]
            simp
        · obtain ⟨c', c1, c2⟩ := run_append_out (ty := ty) (base := some ⟨ρ.blk b, ρ.off b + 0, none⟩) (n := n) (cap := ρ.cap b - 0) d1 dd1 dd2 hei (k1 w) k4d r4d (by omega) g1.1 g1.2 hts0 hts1 has0 has1
          have hd := hs.del h13 hf
          have hd2 := appended_row (P := tb.p) (w := w) hd.sat (cells := app old p.2) (old := (old.map (den ρ)).toArray) (new := (p.2.map (den ρ)).toArray) hsc hz' hei c1 hln (by rw [app_eq]; simp)
          refine ⟨_, _, ?_, hd.trans hd2, ⟨Nat.lt_succ_self _, hs.good _ (Nat.le_refl _)⟩⟩
          rw [c2]; simp only [den, Env.add_blk, Env.add_off, Env.add_cap, Nat.add_zero, Nat.sub_zero]
    | _ => cases h14
  | _ => cases h11
end
end Ev
end Go.Proofs.YtipjmaimjchckaaGreatDoor

/-! THE OPERATIONS ARE RIGHT: calls; all of them joined. -/
set_option linter.unusedSimpArgs false
set_option linter.unusedVariables false
set_option linter.unusedSectionVars false
namespace Go.Proofs.YtipjmaimjchckaaGreatDoor
open Go.RowKit
namespace Ev


/-! No other operation lays a deferred call. -/
def NoD (r : Res) : Prop := ∀ f xs, r ≠ some (.dfr f xs)
theorem noD_none : NoD none := fun _ _ h => by cases h
theorem noD_ret {x : AV} {y : Hs} : NoD (ret x y) := fun _ _ h => by cases h
theorem noD_ob {α : Type} {x : Option α} {k : α → Res} (h : ∀ z, NoD (k z)) : NoD (ob x k) := fun f xs e => by obtain ⟨z, _, e2⟩ := ob_some.1 e; exact h z f xs e2
theorem noD_gd {b : Bool} {x : Res} (h : NoD x) : NoD (gd b x) := fun f xs e => h f xs (gd_some.1 e).2
theorem noD_retO {x : Option AV} {y : Hs} : NoD (retO x y) := noD_ob fun _ _ _ h => by cases h
theorem noD_retV {x : Option Value} {y : Hs} : NoD (retV x y) := noD_ob fun _ _ _ h => by cases h
theorem noD_retP {x : Option (AV × Hs)} : NoD (retP x) := noD_ob fun _ _ _ h => by cases h
theorem noD_asV {x : AV} {k : Value → Res} (h : ∀ z, NoD (k z)) : NoD (asV x k) := fun f xs e => by obtain ⟨z, _, e2⟩ := asV_some e; exact h z f xs e2
theorem noD_asPtr {x : AV} {k : Nat → Nat → Res} (h : ∀ y z, NoD (k y z)) : NoD (asPtr x k) := fun f xs e => by obtain ⟨y, z, _, e2⟩ := asPtr_some e; exact h y z f xs e2
theorem noD_asBool {x : AV} {k : Bool → Res} (h : ∀ z, NoD (k z)) : NoD (asBool x k) := fun f xs e => by obtain ⟨z, _, e2⟩ := asBool_some e; exact h z f xs e2
theorem noD_asNat {x : AV} {k : Nat → Res} (h : ∀ z, NoD (k z)) : NoD (asNat x k) := fun f xs e => by obtain ⟨_, z, _, e2⟩ := asNat_some e; exact h z f xs e2
theorem noD_rowC {x : HO} {k : List AV → Res} (h : ∀ z, NoD (k z)) : NoD (rowC x k) := fun f xs e => by obtain ⟨z, _, e2⟩ := rowC_some e; exact h z f xs e2
theorem noD_rowW {x : HO} {k : List AV → Res} (h : ∀ z, NoD (k z)) : NoD (rowW x k) := fun f xs e => by obtain ⟨z, _, e2⟩ := rowW_some e; exact h z f xs e2
theorem noD_elemK {x : TyK} {k : TypeId → Res} (h : ∀ z, NoD (k z)) : NoD (elemK x k) := fun f xs e => by obtain ⟨z, _, e2⟩ := elemK_some e; exact h z f xs e2
theorem noD_structK {x : TyK} {k : List (Nat × Nat × Bool) → Res} (h : ∀ z, NoD (k z)) : NoD (structK x k) := fun f xs e => by obtain ⟨z, _, e2⟩ := structK_some e; exact h z f xs e2
theorem noD_fnF {x : Fn} {k : FuncId → Res} (h : ∀ z, NoD (k z)) : NoD (fnF x k) := fun f xs e => by obtain ⟨z, _, e2⟩ := fnF_some e; exact h z f xs e2
theorem noD_two {α : Type} {l : List α} {k : α → α → Res} (h : ∀ y z, NoD (k y z)) : NoD (two l k) := fun f xs e => by obtain ⟨y, z, _, _, e2⟩ := two_some e; exact h y z f xs e2
theorem noD_el {fv : Value → Res} {fp : Nat → Nat → Res} {fs fu : Nat → Nat → Nat → Nat → Res} {ff : Fn → List AV → List AV → Res} {fi : TypeId → AV → Res} {fa ft : List AV → Res} {fm : Nat → Res} {x : AV}
    (h1 : ∀ a, NoD (fv a)) (h2 : ∀ a b, NoD (fp a b)) (h3 : ∀ a b c d, NoD (fs a b c d)) (h4 : ∀ a b c d, NoD (fu a b c d)) (h5 : ∀ a b c, NoD (ff a b c)) (h6 : ∀ a b, NoD (fi a b)) (h7 : ∀ a, NoD (fa a)) (h8 : ∀ a, NoD (ft a)) (h9 : ∀ a, NoD (fm a)) :
    NoD (AV.el fv fp fs fu ff fi fa ft fm x) := by
  cases x
  · exact h1 _
  · exact h2 _ _
  · exact h3 _ _ _ _
  · exact h4 _ _ _ _
  · exact h5 _ _ _
  · exact h6 _ _
  · exact h7 _
  · exact h8 _
  · exact h9 _
theorem noD_vel {fb : Bool → Res} {fi : IntKind → Int → Res} {fs : ByteArray → Res} {fsl : Option Addr → Nat → Nat → Res} {ff : Fn → Array Value → Array Value → Res} {fa ft : Array Value → Res} {fo : Res} {x : Value}
    (h1 : ∀ a, NoD (fb a)) (h2 : ∀ a b, NoD (fi a b)) (h3 : ∀ a, NoD (fs a)) (h4 : ∀ a b c, NoD (fsl a b c)) (h5 : ∀ a b c, NoD (ff a b c)) (h6 : ∀ a, NoD (fa a)) (h7 : ∀ a, NoD (ft a)) (h8 : NoD fo) : NoD (vel fb fi fs fsl ff fa ft fo x) := by
  cases x <;> first | exact h1 _ | exact h2 _ _ | exact h3 _ | exact h4 _ _ _ | exact h5 _ _ _ | exact h6 _ | exact h7 _ | exact h8
theorem noD_orE {x y : Res} (h : NoD x) (h' : NoD y) : NoD (orE x y) := fun f xs e => by rcases orE_some e with e | e; exact h f xs e; exact h' f xs e
theorem noD_bool {b : Bool} {x y : Res} (h : NoD x) (h' : NoD y) : NoD (Bool.rec (motive := fun _ => Res) x y b) := by cases b; exact h; exact h'
theorem noD_fnV {f : AV} {xs : List AV} {k : FuncId → List AV → Res} (h : ∀ y z, NoD (k y z)) : NoD (fnV f xs k) :=
  noD_el (fun _ => noD_vel (fun _ => noD_none) (fun _ _ => noD_none) (fun _ => noD_none) (fun _ _ _ => noD_none) (fun _ _ _ => noD_fnF fun _ => h _ _) (fun _ => noD_none) (fun _ => noD_none) noD_none)
    (fun _ _ => noD_none) (fun _ _ _ _ => noD_none) (fun _ _ _ _ => noD_none) (fun _ _ _ => noD_fnF fun _ => h _ _) (fun _ _ => noD_none) (fun _ => noD_none) (fun _ => noD_none) (fun _ => noD_none)

/-- What the evaluator's calls tell of the program's. -/
def CallOk (tb : Tab) (w0 : World) (call : CallT) : Prop :=
  ∀ (_ : Gh) fl hid f xs s v s', call fl hid f xs s = some (v, s') → ∀ ρ w, SatH w0 ρ ⟨tb.g, tb.l, fl, hid⟩ s w → ScL s.n xs →
    Calls tb.p f (xs.map (den ρ)).toArray w fun e w' => ∃ ρ', e = .returned (den ρ' v) ∧ Stp w0 ρ ρ' ⟨tb.g, tb.l, fl, hid⟩ s s' w w' ∧ Sc s'.n v
/-- The tables are right. -/
structure TabOk (tb : Tab) (w0 : World) : Prop where
  ty : ∀ t i, tb.ty.get t = some i → TyOk tb.p t i
  fn : ∀ f fn, tb.fn.get f = some fn → tb.p.funcs[f]? = some fn ∧ ∀ args w, (callFunc f args).run tb.p w = .ok (.enter f args) w
  orc : ∀ f xs v, tb.orc f xs = some v → (∀ (_ : Gh) n, Sc n v) ∧ (∀ args w, (callFunc f args).run tb.p w = .ok (.enter f args) w) ∧
    ∀ ρ w, Below w0.heap.size w0 w → Calls tb.p f (xs.map (den ρ)).toArray w fun e w' => e = .returned (den ρ v) ∧ Below w.heap.size w w'
  mixed : tb.p.follows .mixedOrders = true

variable [Gh]
/-- A deferred call. -/
def DefOk (ρ : Env) (n : Nat) (p : FuncId × List AV) (d : Deferred) : Prop :=
  ScL n p.2 ∧ ∃ cap args, d = ⟨.fn (.func p.1) cap, args⟩ ∧ args ++ cap = (p.2.map (den ρ)).toArray

section
variable {tb : Tab} {w0 : World} {ρ : Env} {cx : Cx} {s s' : Hs} {w : World} {a : Act} {t : TE} {call : CallT} {v : AV} {P : Program}

theorem fnV_some {β : Type} {f : AV} {xs : List AV} {k : FuncId → List AV → Option β} {r : β} (h : fnV f xs k = some r) (ρ : Env) {n : Nat} (hf : Sc n f) (hx : ScL n xs) :
    ∃ g fi ca xs', k g xs' = some r ∧ den ρ f = .func (.func g) fi ca ∧ (fi ++ (xs.map (den ρ)).toArray) ++ ca = (xs'.map (den ρ)).toArray ∧ ScL n xs' := by
  cases f with
  | v f =>
    cases f with
    | func f fi ca =>
      obtain ⟨g, rfl, h2⟩ := fnF_some h
      refine ⟨g, fi, ca, _, h2, rfl, ?_, ?_⟩
      · rw [app_eq, app_eq]
        apply Array.ext'
        simp only [List.map_append, denV, Array.toList_append, List.append_assoc]
      · rw [app_eq, app_eq, scL_iff]
        rw [scL_iff] at hx
        intro x hx'
        rcases List.mem_append.1 hx' with h | h
        · exact (scL_iff _ _).1 (scV n _) x h
        · rcases List.mem_append.1 h with h | h
          · exact hx x h
          · exact (scL_iff _ _).1 (scV n _) x h
    | _ => cases h
  | fn f fi ca =>
    obtain ⟨g, rfl, h2⟩ := fnF_some h
    refine ⟨g, _, _, _, h2, rfl, ?_, ?_⟩
    · rw [app_eq, app_eq, denL_eq, denL_eq]
      apply Array.ext'
      simp only [List.map_append, Array.toList_append, List.append_assoc]
    · rw [app_eq, app_eq, scL_iff]
      rw [scL_iff] at hx
      have h1 := (scL_iff _ _).1 hf.1
      have h2 := (scL_iff _ _).1 hf.2
      intro x hx'
      rcases List.mem_append.1 hx' with h | h
      · exact h1 x h
      · rcases List.mem_append.1 h with h | h
        · exact hx x h
        · exact h2 x h
  | _ => cases h

omit [Gh] in
theorem nextV_some {x : Option Next} {u : Value} (h : nextV x = some u) : x = some (.value u) := by
  obtain ⟨n, rfl, h2⟩ := ob_some.1 h
  cases n <;> first | (cases h2; done) | (cases h2; rfl)

theorem wp_of_res {o : Oper} {next : Act → World → Prop} {Q : Exit → Act → World → Prop} (h : OpRes P w0 ρ cx s w (execOp a.eval o) v s')
    (hn : ∀ ρ' w', Stp w0 ρ ρ' cx s s' w w' → Sc s'.n v → next (a.put o.dst (den ρ' v)) w') : o.wp P a w next Q := by
  obtain ⟨ρ', w', h1, h2, h3⟩ := h
  unfold Oper.wp
  rcases h1 with h1 | ⟨h1, rfl⟩
  · rw [h1]; exact hn ρ' w' h2 h3
  · rw [h1]; exact hn ρ' w' h2 h3

variable (hT : TabOk tb w0)
include hT

/-- A built-in. -/
theorem op_bi {o : Oper} {b : Builtin} {args : Array Operand} {ts : Array TypeId} (ho : o.op = .call ⟨.builtin b, args, ts⟩) {xs : List AV} (hx : mapO (opd tb t) args.toList = some xs)
    (h : bi tb b ⟨.builtin b, args, ts⟩ xs cx s = some (.ok v s')) (hs : SatH w0 ρ cx s w) (hv : Vals tb ρ s.n a t o.op) : OpRes tb.p w0 ρ cx s w (execOp a.eval o) v s' := by
  obtain ⟨dst, op, ty, pos, af, g⟩ := o
  subst ho
  obtain ⟨e1, e2⟩ := mapO_vals hx hv (fun x hx => by simp [Op.operands, Call.operands]; simpa using hx)
  have e3 : args.map a.eval = (xs.map (den ρ)).toArray := by apply Array.ext'; rw [Array.toList_map, e1]
  have hg : ∀ u, nextV (semV tb.p (builtin b ts 0 #[] (xs.map (den ρ)).toArray)) = some u → (∀ ty' cs, builtin b ts ty' cs (xs.map (den ρ)).toArray = builtin b ts 0 #[] (xs.map (den ρ)).toArray) →
      (execOp a.eval ⟨dst, .call ⟨.builtin b, args, ts⟩, ty, pos, af, g⟩).run tb.p w = .ok (.value u) w := by
    intro u hu hi
    refine run_bi ?_
    rw [e3, hi]
    exact semV_run (nextV_some hu) w
  have hG : biG tb b ⟨.builtin b, args, ts⟩ xs s = some (.ok v s') → (∀ ty' cs vs, builtin b ts ty' cs vs = builtin b ts 0 #[] vs) → OpRes tb.p w0 ρ cx s w (execOp a.eval ⟨dst, .call ⟨.builtin b, args, ts⟩, ty, pos, af, g⟩) v s' := by
    intro h hi
    obtain ⟨vs, h1, h2⟩ := ob_some.1 h
    obtain ⟨u, h3, rfl, rfl⟩ := retV_some h2
    rw [← toV_vals h1 ρ] at h3
    exact .pure hs (hg u h3 (fun ty' cs => hi ty' cs _)) trivial
  cases b with
  | append =>
    obtain ⟨t1, t2, tr, ht, h1⟩ := two_some h
    obtain ⟨x, y, xr, hxs, h2⟩ := two_some h1
    subst hxs
    obtain ⟨s1, s2, _⟩ := e2
    change ts.toList = _ at ht
    have hts : ts = (t1 :: t2 :: tr).toArray := by rw [← ht]
    obtain ⟨ρ', w', k1, k2, k3⟩ := op_append (ty := ty) (ts := ts) (as := args.map a.eval) hT.ty h2 hs s1 s2 (by rw [hts]; rfl) (by rw [hts]; rfl) (by rw [e3]; rfl) (by rw [e3]; rfl)
    refine ⟨ρ', w', .inl (run_bi ?_), k2, k3⟩
    simp only [builtin, Sem.run_bind, k1, Result.andThen_ok, Sem.run_pure]
  | len =>
    change biLen tb ts.toList xs s = some (.ok v s') at h
    unfold biLen at h
    cases hts : ts.toList with
    | nil => rw [hts] at h; cases h
    | cons t1 tr =>
      rw [hts] at h
      cases xs with
      | nil => cases h
      | cons x xr =>
        obtain ⟨i, h1, h2⟩ := ob_some.1 h
        obtain ⟨d, d1, _, d2⟩ := (hT.ty t1 i h1).desc
        have hts0 : ts[0]? = some t1 := by rw [← Array.getElem?_toList, hts]; rfl
        have has0 : (args.map a.eval)[0]? = some (den ρ x) := by rw [e3]; rfl
        have fin : ∀ n : Nat, v = .v (.int .i64 (Int.ofNat n)) → s' = s → (Builtin.len_ ts ty (args.map a.eval)).run tb.p w = .ok (goInt n) w → OpRes tb.p w0 ρ cx s w (execOp a.eval ⟨dst, .call ⟨.builtin .len, args, ts⟩, ty, pos, af, g⟩) v s' := by
          intro n hv' hs' hr
          subst hv'; subst hs'
          refine .pure hs (run_bi ?_) trivial
          simp only [builtin, Sem.run_bind, hr, Result.andThen_ok, Sem.run_pure]
          rfl
        cases hk : i.k with
        | str =>
          rw [hk] at h2 d2
          obtain rfl := kind_str d2
          obtain ⟨z, rfl, h3⟩ := asV_some h2
          cases z with
          | string bs =>
            obtain ⟨q1, q2⟩ := ret_some h3
            refine fin _ q1 q2 ?_
            simp only [Builtin.len_, hts0, has0, Sem.run_bind, run_underlying d1 w, Result.andThen_ok, den, Sem.run_pure, len_eq]
            rfl
          | _ => cases h3
        | slice el =>
          rw [hk] at h2 d2
          obtain rfl := kind_slice d2
          obtain ⟨n, h3, h4⟩ := ob_some.1 h2
          obtain ⟨q1, q2⟩ := ret_some h4
          refine fin n q1 q2 ?_
          have hd : ∃ ad c, den ρ x = .slice ad n c := by
            cases x with
            | v x => cases x <;> first | (cases h3; done) | (cases h3; exact ⟨_, _, rfl⟩)
            | sl b off n c => cases h3; exact ⟨_, _, rfl⟩
            | slU b off n c => cases h3; exact ⟨_, _, rfl⟩
            | _ => cases h3
          obtain ⟨ad, c, hd⟩ := hd
          simp only [Builtin.len_, hts0, has0, hd, Sem.run_bind, run_underlying d1 w, Result.andThen_ok, Sem.run_pure]
        | _ => rw [hk] at h2; cases h2
  | min => exact hG h (fun _ _ _ => rfl)
  | max => exact hG h (fun _ _ _ => rfl)
  | _ => cases h

omit [Gh] in
/-- How a call of a function value is carried out. -/
theorem run_callV {o : Oper} {f : Operand} {args : Array Operand} {ts : Array TypeId} (ho : o.op = .call ⟨.value f, args, ts⟩) {F : AV} {xs : List AV} {g : FuncId} {fi ca : Array Value} {xs' : List AV}
    (hF : a.eval f = den ρ F) (hx : args.map a.eval = (xs.map (den ρ)).toArray) (hd : den ρ F = .func (.func g) fi ca) (he : (fi ++ (xs.map (den ρ)).toArray) ++ ca = (xs'.map (den ρ)).toArray) :
    (execOp a.eval o).run P w = (callFunc g (xs'.map (den ρ)).toArray).run P w := by
  obtain ⟨dst, op, ty, pos, af, gg⟩ := o
  subst ho
  simp only [execOp, resolve, Sem.run_bind, hF, hd, Deferred.ofValue, Sem.run_pure, Result.andThen_ok, invoke, hx, he]

/-- AN OPERATION IS RIGHT. -/
theorem op_sound (hc : CallOk tb w0 call) {o : Oper} (h : opv tb o.op call cx t s = some (.ok v s')) (hg : cx.g = tb.g) (hl : cx.l = tb.l) (hs : SatH w0 ρ cx s w) (hv : Vals tb ρ s.n a t o.op)
    {next : Act → World → Prop} {Q : Exit → Act → World → Prop} (hn : ∀ ρ' w', Stp w0 ρ ρ' cx s s' w w' → Sc s'.n v → next (a.put o.dst (den ρ' v)) w') : o.wp tb.p a w next Q := by
  obtain ⟨dst, op, ty, pos, af, gg⟩ := o
  dsimp only at h hv hn
  cases op with
  | move x => exact wp_of_res (op_move (call := call) h hs hv) hn
  | assign x => exact wp_of_res (op_assign (call := call) h hs hv) hn
  | pick x y z => exact wp_of_res (op_pick (call := call) h hs hv) hn
  | alloc e => exact wp_of_res (op_alloc (call := call) (t := t) hT.ty h hs) hn
  | box e x => exact wp_of_res (op_box (call := call) hT.ty h hs hv) hn
  | build e ps => exact wp_of_res (op_build (call := call) hT.ty h hs hv) hn
  | buildSlice e n ps => exact wp_of_res (op_buildSlice (call := call) hT.ty h hs hv) hn
  | load e x => exact wp_of_res (op_load (call := call) hT.ty h hs hv) hn
  | store e x y => exact wp_of_res (op_store (call := call) hT.ty h hs hv) hn
  | nilCheck x => exact wp_of_res (op_nilCheck (call := call) h hs hv) hn
  | binOp b xt x y yt => exact wp_of_res (op_binOp (call := call) hT.ty h hs hv) hn
  | unOp b xt x => exact wp_of_res (op_unOp (call := call) h hs hv) hn
  | convert a b x => exact wp_of_res (op_convert (call := call) hT.ty h hs hv) hn
  | makeInterface e x => exact wp_of_res (op_makeInterface (call := call) hT.ty h hs hv) hn
  | makeFunc f x y => exact wp_of_res (op_makeFunc (call := call) h hs hv) hn
  | makeSlice e x y => exact wp_of_res (op_makeSlice (call := call) hT.ty h hs hv) hn
  | slice e x lo hi mx => exact wp_of_res (op_slice (call := call) hT.ty h hs hv) hn
  | fieldAddr e x f => exact wp_of_res (op_fieldAddr (call := call) hT.ty h hs hv) hn
  | field e x f => exact wp_of_res (op_field (call := call) hT.ty h hs hv) hn
  | indexAddr e x y => exact wp_of_res (op_indexAddr (call := call) hT.ty h hs hv) hn
  | index e x y => exact wp_of_res (op_index (call := call) hT.ty h hs hv) hn
  | range e x => exact wp_of_res (op_range (call := call) hT.ty h hs hv) hn
  | next x b => exact wp_of_res (op_next (call := call) hT.ty h hs hv) hn
  | extract x n => exact wp_of_res (op_extract (call := call) h hs hv) hn
  | call c =>
    obtain ⟨callee, args, ts⟩ := c
    obtain ⟨xs, h1, h2⟩ := ob_some.1 h
    cases callee with
    | builtin b => exact wp_of_res (op_bi hT rfl h1 h2 hs hv) hn
    | invoke r m => cases h2
    | value f =>
      obtain ⟨F, h3, h4⟩ := ob_some.1 h2
      obtain ⟨f1, f2⟩ := hv f (by simp [Op.operands, Call.operands]) F h3
      obtain ⟨e1, e2⟩ := mapO_vals h1 hv (fun x hx => by simp [Op.operands, Call.operands]; exact .inr (by simpa using hx))
      have e3 : args.map a.eval = (xs.map (den ρ)).toArray := by apply Array.ext'; rw [Array.toList_map, e1]
      obtain ⟨g, fi, ca, xs', h5, h6, h7, h8⟩ := fnV_some h4 ρ f1 e2
      have hrun := run_callV (P := tb.p) (w := w) (o := ⟨dst, .call ⟨.value f, args, ts⟩, ty, pos, af, gg⟩) hT rfl f2 e3 h6 h7
      cases horc : tb.orc g xs' with
      | some u =>
        rw [horc] at h5
        obtain ⟨rfl, rfl⟩ := ret_some h5
        obtain ⟨o1, o2, o3⟩ := hT.orc g xs' _ horc
        unfold Oper.wp
        rw [hrun, o2]
        refine (o3 ρ w hs.below).mono ?_
        rintro e w' ⟨rfl, hb⟩
        exact hn ρ w' (hs.world hb) (o1 _ _)
      | none =>
        rw [horc] at h5
        cases hfn : tb.fn.get g with
        | none =>
          rw [hfn] at h5
          obtain ⟨vs, h9, h10⟩ := ob_some.1 h5
          obtain ⟨u, h11, rfl, rfl⟩ := retV_some h10
          rw [← toV_vals h9 ρ] at h11
          exact wp_of_res (OpRes.pure (v := .v u) hs (by rw [hrun]; exact semV_run (nextV_some h11) w) trivial) hn
        | some fn =>
          rw [hfn] at h5
          obtain ⟨p, h9, h10⟩ := ob_some.1 h5
          cases h10
          have hcx : cx = ⟨tb.g, tb.l, cx.fl, cx.hid⟩ := by cases cx; simp at hg hl; simp [hg, hl]
          have hs' : SatH w0 ρ ⟨tb.g, tb.l, cx.fl, cx.hid⟩ s w := hcx ▸ hs
          unfold Oper.wp
          rw [hrun, (hT.fn g fn hfn).2]
          refine (hc _ cx.fl cx.hid g xs' s p.1 p.2 h9 ρ w hs' h8).mono ?_
          rintro e w' ⟨ρ', rfl, k1, k2⟩
          exact hn ρ' w' (hcx ▸ k1) k2
  | defer c =>
    obtain ⟨callee, args, ts⟩ := c
    obtain ⟨xs, h1, h2⟩ := ob_some.1 h
    cases callee with
    | builtin b => cases h2
    | invoke r m => cases h2
    | value f =>
      obtain ⟨F, h3, h4⟩ := ob_some.1 h2
      obtain ⟨f1, f2⟩ := hv f (by simp [Op.operands, Call.operands]) F h3
      obtain ⟨e1, e2⟩ := mapO_vals h1 hv (fun x hx => by simp [Op.operands, Call.operands]; exact .inr (by simpa using hx))
      obtain ⟨g, fi, ca, xs', h5, _⟩ := fnV_some h4 ρ f1 e2
      cases h5
  | _ => cases h

/-- A deferred call is laid. -/
theorem op_defer_sound {o : Oper} {f : FuncId} {xs : List AV} (h : opv tb o.op call cx t s = some (.dfr f xs)) (hs : SatH w0 ρ cx s w) (hv : Vals tb ρ s.n a t o.op)
    {next : Act → World → Prop} {Q : Exit → Act → World → Prop} (hn : ∀ d, DefOk ρ s.n (f, xs) d → next ({ a with defers := d :: a.defers }.put o.dst undef) w) : o.wp tb.p a w next Q := by
  obtain ⟨dst, op, ty, pos, af, gg⟩ := o
  dsimp only at h hv hn
  cases op with
  | defer c =>
    obtain ⟨callee, args, ts⟩ := c
    obtain ⟨ys, h1, h2⟩ := ob_some.1 h
    cases callee with
    | builtin b => cases h2
    | invoke r m => cases h2
    | value fo =>
      obtain ⟨F, h3, h4⟩ := ob_some.1 h2
      obtain ⟨f1, f2⟩ := hv fo (by simp [Op.operands, Call.operands]) F h3
      obtain ⟨e1, e2⟩ := mapO_vals h1 hv (fun x hx => by simp [Op.operands, Call.operands]; exact .inr (by simpa using hx))
      have e3 : args.map a.eval = (ys.map (den ρ)).toArray := by apply Array.ext'; rw [Array.toList_map, e1]
      obtain ⟨g, fi, ca, xs', h5, h6, h7, h8⟩ := fnV_some h4 ρ f1 e2
      cases h5
      unfold Oper.wp
      have hr : (execOp a.eval ⟨dst, .defer ⟨.value fo, args, ts⟩, ty, pos, af, gg⟩).run tb.p w = .ok (.defer ⟨.fn (.func f) ca, fi ++ (ys.map (den ρ)).toArray⟩) w := by
        simp only [execOp, resolve, Sem.run_bind, f2, h6, Deferred.ofValue, Sem.run_pure, Result.andThen_ok, e3]
      rw [hr]
      exact hn _ ⟨h8, ca, _, rfl, h7⟩
  | move x => exact absurd h (noD_retO f xs)
  | assign x => exact absurd h (noD_retO f xs)
  | pick x y z => exact absurd h (noD_ob (fun _ => noD_asBool fun _ => noD_retO) f xs)
  | alloc e => exact absurd h (noD_ob (fun _ => noD_ret) f xs)
  | box e x => exact absurd h (noD_ob (fun _ => noD_ret) f xs)
  | build e ps => exact absurd h (noD_ob (fun _ => noD_ob fun _ => noD_ob fun _ => noD_ob fun _ => noD_ret) f xs)
  | buildSlice e n ps => exact absurd h (noD_ob (fun _ => noD_elemK fun _ => noD_ob fun _ => noD_gd (noD_ob fun _ => noD_ob fun _ => noD_ret)) f xs)
  | load e x => exact absurd h (noD_ob (fun _ => noD_ob fun _ => noD_asPtr fun _ _ => noD_ob fun _ => noD_rowC fun _ => noD_retO) f xs)
  | store e x y => exact absurd h (noD_ob (fun _ => noD_ob fun _ => noD_ob fun _ => noD_asPtr fun _ _ => noD_gd (noD_ob fun _ => noD_rowW fun _ => noD_gd noD_ret)) f xs)
  | nilCheck x =>
    refine absurd h (noD_ob (fun y => ?_) f xs)
    exact noD_el (fun _ => noD_vel (fun _ => noD_none) (fun _ _ => noD_none) (fun _ => noD_none) (fun _ _ _ => noD_none) (fun _ _ _ => noD_gd noD_ret) (fun _ => noD_none) (fun _ => noD_none) noD_none) (fun _ _ => noD_ret) (fun _ _ _ _ => noD_none) (fun _ _ _ _ => noD_none) (fun _ _ _ => noD_gd noD_ret) (fun _ _ => noD_none) (fun _ => noD_none) (fun _ => noD_none) (fun _ => noD_none)
  | binOp b xt x y yt => exact absurd h (noD_ob (fun _ => noD_ob fun _ => noD_retV) f xs)
  | unOp b xt x => exact absurd h (noD_ob (fun _ => noD_retV) f xs)
  | convert a b x => exact absurd h (noD_ob (fun _ => noD_orE noD_retV (noD_ob fun _ => noD_gd (noD_ob fun _ => noD_elemK fun _ => noD_ob fun _ => noD_gd (noD_asV fun _ => noD_vel (fun _ => noD_none) (fun _ _ => noD_none) (fun _ => noD_ret) (fun _ _ _ => noD_none) (fun _ _ _ => noD_none) (fun _ => noD_none) (fun _ => noD_none) noD_none)))) f xs)
  | makeInterface e x => exact absurd h (noD_ob (fun _ => noD_gd (noD_ob fun _ => noD_ret)) f xs)
  | makeFunc f' x y => exact absurd h (noD_ob (fun _ => noD_ob fun _ => noD_ret) f xs)
  | makeSlice e x y => exact absurd h (noD_ob (fun _ => noD_elemK fun _ => noD_ob fun _ => noD_ob fun _ => noD_ob fun _ => noD_asNat fun _ => noD_asNat fun _ => noD_gd noD_ret) f xs)
  | slice e x lo hi mx => exact absurd h (noD_ob (fun _ => noD_ob fun _ => noD_retO) f xs)
  | fieldAddr e x n => exact absurd h (noD_ob (fun _ => noD_structK fun _ => noD_ob fun _ => noD_gd (noD_ob fun _ => noD_asPtr fun _ _ => noD_ret)) f xs)
  | field e x n =>
    refine absurd h (noD_ob (fun _ => noD_structK fun _ => noD_ob fun _ => noD_ob fun y => ?_) f xs)
    exact noD_el (fun _ => noD_vel (fun _ => noD_none) (fun _ _ => noD_none) (fun _ => noD_none) (fun _ _ _ => noD_none) (fun _ _ _ => noD_none) (fun _ => noD_retO) (fun _ => noD_none) noD_none) (fun _ _ => noD_none) (fun _ _ _ _ => noD_none) (fun _ _ _ _ => noD_none) (fun _ _ _ => noD_none) (fun _ _ => noD_none) (fun _ => noD_retO) (fun _ => noD_none) (fun _ => noD_none)
  | indexAddr e x y =>
    refine absurd h (noD_ob (fun i => noD_ob fun X => noD_ob fun _ => noD_asNat fun j => ?_) f xs)
    cases i.k with
    | slice el => exact noD_ob fun _ => noD_el (fun _ => noD_none) (fun _ _ => noD_none) (fun _ _ _ _ => noD_gd noD_ret) (fun _ _ _ _ => noD_gd noD_ret) (fun _ _ _ => noD_none) (fun _ _ => noD_none) (fun _ => noD_none) (fun _ => noD_none) (fun _ => noD_none)
    | arr n el => exact noD_ob fun _ => noD_asPtr fun _ _ => noD_gd noD_ret
    | _ => exact noD_none
  | index e x y =>
    refine absurd h (noD_ob (fun i => noD_ob fun X => noD_ob fun _ => noD_asNat fun j => ?_) f xs)
    cases i.k with
    | str => exact noD_asV fun _ => noD_retV
    | arr n el =>
      refine noD_ob fun _ => noD_gd ?_
      exact noD_el (fun _ => noD_vel (fun _ => noD_none) (fun _ _ => noD_none) (fun _ => noD_none) (fun _ _ _ => noD_none) (fun _ _ _ => noD_none) (fun _ => noD_retO) (fun _ => noD_none) noD_none) (fun _ _ => noD_none) (fun _ _ _ _ => noD_none) (fun _ _ _ _ => noD_none) (fun _ _ _ => noD_none) (fun _ _ => noD_none) (fun _ => noD_retO) (fun _ => noD_none) (fun _ => noD_none)
    | _ => exact noD_none
  | range e x => exact absurd h (noD_ob (fun _ => noD_gd (noD_ob fun _ => noD_asV fun _ => noD_vel (fun _ => noD_none) (fun _ _ => noD_none) (fun _ => noD_ret) (fun _ _ _ => noD_none) (fun _ _ _ => noD_none) (fun _ => noD_none) (fun _ => noD_none) noD_none)) f xs)
  | next x b =>
    refine absurd h (noD_gd (noD_ob fun _ => noD_asPtr fun _ _ => noD_gd (noD_ob fun o => ?_)) f xs)
    cases o with
    | iter bs p =>
      show NoD (nextS bs p _ _)
      unfold nextS
      cases nth bs.data.toList p with
      | none => exact noD_gd noD_ret
      | some c => exact noD_gd noD_ret
    | _ => exact noD_none
  | extract x n => exact absurd h (noD_ob (fun _ => noD_retO) f xs)
  | call c =>
    obtain ⟨callee, args, ts⟩ := c
    obtain ⟨ys, h1, h2⟩ := ob_some.1 h
    cases callee with
    | invoke r m => cases h2
    | value fo =>
      refine absurd h2 (noD_ob (fun F => noD_fnV fun y z => ?_) f xs)
      cases tb.orc y z with
      | some u => exact noD_ret
      | none =>
        cases tb.fn.get y with
        | none => exact noD_ob fun _ => noD_retV
        | some fn => exact noD_retP
    | builtin b =>
      cases b with
      | min => exact absurd h2 (noD_ob (fun _ => noD_retV) f xs)
      | max => exact absurd h2 (noD_ob (fun _ => noD_retV) f xs)
      | append =>
        refine absurd h2 (noD_two (fun t1 t2 => noD_two fun x y => noD_ob fun i => noD_elemK fun e => noD_ob fun ei => noD_ob fun i2 => noD_gd (noD_ob fun p => ?_)) f xs)
        refine noD_el (fun _ => noD_vel (fun _ => noD_none) (fun _ _ => noD_none) (fun _ => noD_none) (fun _ _ _ => noD_gd (noD_gd (noD_bool (noD_gd noD_ret) noD_ret))) (fun _ _ _ => noD_none) (fun _ => noD_none) (fun _ => noD_none) noD_none) (fun _ _ => noD_none)
          (fun _ _ _ _ => noD_gd (noD_ob fun _ => noD_rowC fun _ => noD_bool (noD_ob fun _ => noD_ret) (noD_gd (noD_rowW fun _ => noD_gd noD_ret)))) (fun _ _ _ _ => noD_gd (noD_ob fun o => ?_)) (fun _ _ _ => noD_none) (fun _ _ => noD_none) (fun _ => noD_none) (fun _ => noD_none) (fun _ => noD_none)
        cases o with
        | rowU c es => exact noD_gd (noD_bool (noD_gd (noD_ob fun _ => noD_ret)) (noD_gd (noD_gd noD_ret)))
        | _ => exact noD_none
      | len =>
        refine absurd h2 ?_
        show biLen tb ts.toList ys s ≠ _
        unfold biLen
        cases ts.toList with
        | nil => exact noD_none f xs
        | cons t1 tr =>
          cases ys with
          | nil => exact noD_none f xs
          | cons y yr =>
            refine noD_ob (fun i => ?_) f xs
            cases i.k with
            | str => exact noD_asV fun _ => noD_vel (fun _ => noD_none) (fun _ _ => noD_none) (fun _ => noD_ret) (fun _ _ _ => noD_none) (fun _ _ _ => noD_none) (fun _ => noD_none) (fun _ => noD_none) noD_none
            | slice el => exact noD_ob fun _ => noD_ret
            | _ => exact noD_none
      | _ => cases h2
  | _ => cases h
end
end Ev
end Go.Proofs.YtipjmaimjchckaaGreatDoor

