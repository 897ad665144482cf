/- Texts of this claim, one behind the other, as far as they are used: KL. -/
import Derived.Laws.Tables
import Derived.Laws.Rows
import Derived.Deep.MidRow
import Derived.OwnWalkIn
import Derived.Laws.Cells
import Derived.Test.YtafhimeoijmolaaCoverKeysM2
namespace Go.Proofs.Ytafhimeoijmolaa.K
open Go.RowKit Go.Proofs.YtafhimeoijmolaaW.PrintWords Go.Proofs.YtafhimeoijmolaaW.PrintLast Go.Proofs.YtafhimeoijmolaaW.PrintMore Go.Proofs.Ytafhimeoijmolaa.G
set_option linter.unusedVariables false
set_option linter.unusedSimpArgs false
structure RowTy (ty : TypeId) (n : Nat) : Prop where
  u : ∃ d, Try.prog.underlying ty = some d ∧ (match d with | .struct _ | .array _ _ => true | _ => false) = true
  i : (Try.prog.info? ty).map (·.size) = some n
set_option maxRecDepth 100000 in
theorem row26 : RowTy 26 16 := ⟨⟨_, Try.underlying26, rfl⟩, by kernel_rfl⟩
set_option maxRecDepth 100000 in
theorem row47 : RowTy 47 2 := ⟨⟨_, Try.underlying47, rfl⟩, by kernel_rfl⟩
set_option maxRecDepth 100000 in
theorem row45 : RowTy 45 6 := ⟨⟨_, Try.underlying45, rfl⟩, by kernel_rfl⟩
set_option maxRecDepth 100000 in
theorem row134 : RowTy 134 3 := ⟨⟨_, Try.underlying134, rfl⟩, by kernel_rfl⟩
set_option maxRecDepth 100000 in
theorem row76 : RowTy 76 4 := ⟨⟨_, Try.underlying76, rfl⟩, by kernel_rfl⟩
set_option maxRecDepth 100000 in
theorem row83 : RowTy 83 18 := ⟨⟨_, Try.underlying83, rfl⟩, by kernel_rfl⟩
theorem runLd {ty : TypeId} {g : Nat} {cs : Array Value} {t : TypeId} {fr : Nat × Nat} {w : World} (hT : RowTy ty cs.size) (hb : w.heap[g]? = some (.cells cs t fr)) : (loadVar ty ⟨g, 0, none⟩).run Try.prog w = .ok (.agg cs) w := by
  obtain ⟨⟨d, h1, h2⟩, h3⟩ := hT
  exact run_loadVar_row w g t ty cs fr d hb h1 (by cases d <;> first | rfl | cases h2) h3
theorem runLdM {ty : TypeId} {g o n : Nat} {cs ps : Array Value} {t : TypeId} {fr : Nat × Nat} {w : World} (hT : RowTy ty n) (hb : w.heap[g]? = some (.cells cs t fr)) (hn : ps.size = n) (hp : (cs.toList.drop o).take ps.size = ps.toList) : (loadVar ty ⟨g, o, none⟩).run Try.prog w = .ok (.agg ps) w := by
  obtain ⟨⟨d, h1, h2⟩, h3⟩ := hT
  have h := run_loadVar_mid (P := Try.prog) w g o ty ps.toList d (fun j v hv => by
    have hv' : ps[j]? = some v := by simpa using hv
    have e : ps.toList[j]? = some v := hv
    rw [← hp, List.getElem?_take, List.getElem?_drop] at e
    split at e
    · have e2 : cs[o + j]? = some v := by simpa using e
      simp [World.cell?, hb, e2]
    · cases e) h1 (by cases d <;> simp_all [TypeDesc.isRow]) (by rw [h3, Array.length_toList, hn])
  simpa using h
structure Put1 (w W : World) (g : Nat) (cs : Array Value) (t : TypeId) : Prop where
  at_ : W.heap[g]? = some (.cells cs t (0, 0))
  oth : ∀ k, k ≠ g → W.heap[k]? = w.heap[k]?
  size : W.heap.size = w.heap.size
  os : W.os = w.os
  tape : W.tape = w.tape
  output : W.output = w.output
theorem Put1.below {w0 w W : World} {B g : Nat} {cs : Array Value} {t : TypeId} (h : Put1 w W g cs t) (hb : Below B w0 w) (hB : B ≤ g) : Below B w0 W :=
  ⟨h.os.trans hb.os, h.tape.trans hb.tape, h.output.trans hb.output, by rw [h.size]; exact hb.size, fun k hk => (h.oth k (by omega)).trans (hb.block k hk)⟩
theorem Put1.blk {w W : World} {g k : Nat} {cs : Array Value} {t : TypeId} {o : Obj} (h : Put1 w W g cs t) (hk : w.heap[k]? = some o) (hne : k ≠ g) : W.heap[k]? = some o := (h.oth k hne).trans hk
theorem put1_setRow {w : World} {g : Nat} {old : Array Value} {t : TypeId} (h : w.heap[g]? = some (.cells old t (0, 0))) (cs : Array Value) : Put1 w (w.setRow g cs) g cs t :=
  ⟨setRow_heap w g old cs t (0, 0) h, fun k hk => setRow_other w g k cs hk, setRow_size w g cs, rfl, rfl, rfl⟩
theorem runSt {ty : TypeId} {g : Nat} {old cs : Array Value} {t : TypeId} {w : World} (hT : RowTy ty cs.size) (hb : w.heap[g]? = some (.cells old t (0, 0))) (ho : old.size = cs.size) (h1 : cs.toList.all (·.oneCell') = true) :
    ∃ W, (storeVar ty ⟨g, 0, none⟩ (.agg cs)).run Try.prog w = .ok () W ∧ Put1 w W g cs t :=
  ⟨_, run_storeVar_row w g t ty old cs hb hT.i ho (by rw [← Array.all_toList]; exact h1), put1_setRow hb cs⟩
theorem runLdC {α : Type} {d : Kd α} {ty : TypeId} {ad : Addr} {n sz : Nat} {xs : List α} {w : World} (hC : Kd.C d w (some ad) n xs) (i : Nat) (hi : i < n) (z : α) (cs : List Value) (hk : ∀ c, d.K w (xs.getD i z) c → c = cs) (hT : RowTy ty sz) (hsz : d.sz = sz) : (loadVar ty (ad.add (i * sz))).run Try.prog w = .ok (.agg cs.toArray) w := by
  obtain ⟨ad', c, e, hl, hK, hc⟩ := Kd.C_get hC z (i : Int) (by omega) (by omega)
  obtain rfl := Option.some.inj e
  rw [Int.toNat_natCast] at hK hc
  have e2 := hk c hK
  rw [e2] at hl hc
  rw [hsz] at hl hc
  obtain ⟨⟨dd, h1, h2⟩, h3⟩ := hT
  obtain ⟨inf, h4, h5⟩ := Option.map_eq_some_iff.mp h3
  have hagg : (isAgg ty).run Try.prog w = .ok true w := by
    unfold isAgg
    rw [Sem.run_bind, run_underlying h1 w]
    cases dd <;> simp_all
  have hrow := run_loadCells_list (P := Try.prog) (w := w) (ad.add (i * sz)) cs (fun j v hj => by
    have := hc j v hj
    have e3 : (ad.add (i * sz)).add j = ad.add (i * sz + j) := by
      unfold Addr.add
      by_cases e0 : i * sz = 0
      · simp [e0]
      · by_cases ej : j = 0
        · simp [ej]
        · simp [e0, ej, Nat.add_assoc]
    rw [e3]; exact this)
  rw [hl] at hrow
  simp [loadVar, Sem.run_bind, hagg, sizeOf, typeInfo, h4, h5, hrow]
section
variable {F : Fence} {n : Nat} {ops : Array Oper} {rest : List Oper} {o : Oper} {a : Act} {w : World} {Q : Exit → Act → World → Prop}
theorem ldR {ty : TypeId} {x : Operand} (hg : o.guard = none) (hop : o.op = .load ty x) {g : Nat} {cs : Array Value} {t : TypeId} {fr : Nat × Nat} (hb : w.heap[g]? = some (.cells cs t fr)) (hx : a.eval x = .pointer (some ⟨g, 0, none⟩)) (hT : RowTy ty cs.size)
    (h : wpList Try.prog ops Q rest (a.put o.dst (.agg cs)) w) : wpList Try.prog ops Q (o :: rest) a w :=
  wpList_plain hg fun K hK => by
    unfold Oper.wp execOp
    simp only [hop, hx, Instr.loadAt, Instr.sureAddr, Sem.run_bind, Sem.run_pure, Result.andThen_ok, runLd hT hb]
    exact hK _ _ h
theorem ldM {ty : TypeId} {x : Operand} (hg : o.guard = none) (hop : o.op = .load ty x) {g : Nat} {cs : Array Value} {t : TypeId} {fr : Nat × Nat} (hb : w.heap[g]? = some (.cells cs t fr)) (off : Nat) (ps : Array Value) (hx : a.eval x = .pointer (some ⟨g, off, none⟩)) (hT : RowTy ty ps.size) (hp : (cs.toList.drop off).take ps.size = ps.toList)
    (h : wpList Try.prog ops Q rest (a.put o.dst (.agg ps)) w) : wpList Try.prog ops Q (o :: rest) a w :=
  wpList_plain hg fun K hK => by
    unfold Oper.wp execOp
    simp only [hop, hx, Instr.loadAt, Instr.sureAddr, Sem.run_bind, Sem.run_pure, Result.andThen_ok, runLdM hT hb rfl hp]
    exact hK _ _ h
theorem stR {ty : TypeId} {x y : Operand} (hg : o.guard = none) (hop : o.op = .store ty x y) {g : Nat} {old : Array Value} {t : TypeId} (hb : w.heap[g]? = some (.cells old t (0, 0))) (cs : Array Value) (hx : a.eval x = .pointer (some ⟨g, 0, none⟩)) (hy : a.eval y = .agg cs) (hT : RowTy ty cs.size) (ho : old.size = cs.size) (h1 : cs.toList.all (·.oneCell') = true)
    (h : ∀ W, Put1 w W g cs t → wpList Try.prog ops Q rest (a.put o.dst undef) W) : wpList Try.prog ops Q (o :: rest) a w :=
  wpList_plain hg fun K hK => by
    obtain ⟨W, h2, h3⟩ := runSt hT hb ho h1
    unfold Oper.wp execOp
    simp only [hop, hx, hy, Instr.storeAt, Instr.sureAddr, Sem.run_bind, Sem.run_pure, Result.andThen_ok, h2]
    exact hK _ _ (h W h3)
theorem ldC {α : Type} {d : Kd α} {ty : TypeId} {x : Operand} (hg : o.guard = none) (hop : o.op = .load ty x) {ad : Addr} {m : Nat} {xs : List α} (hC : Kd.C d w (some ad) m xs) (i : Nat) (z : α) (cs : List Value) (sz : Nat) (hx : a.eval x = .pointer (some (ad.add (i * sz)))) (hi : i < m) (hk : ∀ c, d.K w (xs.getD i z) c → c = cs) (hT : RowTy ty sz) (hsz : d.sz = sz)
    (h : wpList Try.prog ops Q rest (a.put o.dst (.agg cs.toArray)) w) : wpList Try.prog ops Q (o :: rest) a w :=
  wpList_plain hg fun K hK => by
    unfold Oper.wp execOp
    simp only [hop, hx, Instr.loadAt, Instr.sureAddr, Sem.run_bind, Sem.run_pure, Result.andThen_ok, runLdC hC i hi z cs hk hT hsz]
    exact hK _ _ h
theorem ldR_in {ty : TypeId} {x : Operand} (hg : o.guard = none) (hop : o.op = .load ty x) {g : Nat} {cs : Array Value} {t : TypeId} {fr : Nat × Nat} (hb : w.heap[g]? = some (.cells cs t fr)) (hx : a.eval x = .pointer (some ⟨g, 0, none⟩)) (hT : RowTy ty cs.size)
    (h : wpListIn F n Try.prog ops Q rest (a.put o.dst (.agg cs)) w) : wpListIn F n Try.prog ops Q (o :: rest) a w :=
  wpListIn_plain hg fun K hK => by
    unfold Oper.wpIn
    refine ⟨by simp [Oper.about, hop], ?_⟩
    rw [Oper.semAt_plain F _ _ (by rw [hop]; intro c hc'; cases hc')]
    unfold execOp
    simp only [hop, hx, Instr.loadAt, Instr.sureAddr, Sem.run_bind, Sem.run_pure, Result.andThen_ok, runLd hT hb]
    exact hK _ _ h
end
end Go.Proofs.Ytafhimeoijmolaa.K
