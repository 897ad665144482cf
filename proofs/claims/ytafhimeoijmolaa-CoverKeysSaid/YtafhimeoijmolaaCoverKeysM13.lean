/- Texts of this claim, one behind the other, as far as they are used: KQ, KV, M3. -/
import Derived.OrdersHeld
import Derived.Deep.RegionHeld
import Derived.Test.YtafhimeoijmolaaCoverKeysM2
import Derived.Test.YtafhimeoijmolaaCoverKeysM11
import Derived.Test.YtafhimeoijmolaaCoverKeysM12
namespace Go.Proofs.Ytafhimeoijmolaa.K
open Go.RowKit  Go.Proofs.YtafhimeoijmolaaW.PrintWords Go.Proofs.YtafhimeoijmolaaW.PrintLast Go.Proofs.YtafhimeoijmolaaW.PrintMore Go.Proofs.Ytafhimeoijmolaa.G
set_option linter.unusedVariables false
set_option linter.unusedSimpArgs false
structure SO (W : World) (ob : Option Nat) (w : World) : Prop where
  size : W.heap.size ≤ w.heap.size
  blk : ∀ j, j < W.heap.size → some j ≠ ob → w.heap[j]? = W.heap[j]?
theorem SO.start (W : World) (ob : Option Nat) : SO W ob W.drew := ⟨Nat.le_refl _, fun _ _ _ => rfl⟩
theorem SO.below {W w w' : World} {ob : Option Nat} (h : SO W ob w) (hb : Below w.heap.size w w') : SO W ob w' := ⟨Nat.le_trans h.size hb.size, fun j hj ho => (hb.block j (Nat.lt_of_lt_of_le hj h.size)).trans (h.blk j hj ho)⟩
theorem SO.grown {W w w' : World} {ob : Option Nat} (h : SO W ob w) (hg : w.grownBy w' ob) : SO W ob w' := ⟨Nat.le_trans h.size hg.size, fun j hj ho => (hg.block j (Nat.lt_of_lt_of_le hj h.size) ho).trans (h.blk j hj ho)⟩
theorem SO.at_ {W w : World} {ob : Option Nat} (h : SO W ob w) {g : Nat} {o : Obj} (hb : W.heap[g]? = some o) (hg : some g ≠ ob) : w.heap[g]? = some o := (h.blk g (Array.getElem?_eq_some_iff.1 hb).1 hg).trans hb
set_option maxRecDepth 100000 in
theorem mixed : Try.prog.follows .mixedOrders = true := by kernel_rfl
def NoFrame (Q : Exit → Act → World → Prop) : Prop := ∀ (c : _) (a a' : Act) (w : World), a.defers = a'.defers → Q (.panic c) a w → Q (.panic c) a' w
theorem put_defs (a : Act) (d : Option Tmp) (v : Value) : (a.put d v).defers = a.defers := by cases d <;> rfl
theorem nf_then {K : Act → World → Prop} {Q : Exit → Act → World → Prop} (h : NoFrame Q) : NoFrame (Exit.then K Q) := fun c a a' w hd hh => h c a a' w hd hh
theorem nf_block {id : Nat} {Q : Exit → Act → World → Prop} (h : NoFrame Q) : NoFrame (Exit.inBlock id Q) := fun c a a' w hd hh => h c a a' w hd hh
theorem nf_body {P : Program} {fn : Func} {R : Ending → World → Prop} : NoFrame (bodyPost P fn R) := fun c a a' w hd hh => ⟨hd ▸ hh.1, hh.2⟩
section
variable {P : Program} {ops : Array Oper} {Q : Exit → Act → World → Prop} {md : Region.Mode} {S : World → Prop} {m : Nat}
def preM (ops : Array Oper) (m : Nat) (listed : Array Bool) : Bool := Nat.ble ops.size m || !(listed.getD m true)
def AnyM (P : Program) (md : Region.Mode) (ops : Array Oper) (Q : Exit → Act → World → Prop) (S : World → Prop) (m : Nat) : Nat → Array Bool → Act → World → Prop
  | 0, listed, a, w => Region.ready md ops listed = [] ∧ Q .normal a w
  | f + 1, listed, a, w => (Region.ready md ops listed = [] → Q .normal a w) ∧
      ∀ i ∈ Region.ready md ops listed, wpOp P ops Q i (fun a' w' => (preM ops m (listed.setIfInBounds i true) = true → S w') ∧ AnyM P md ops Q S m f (listed.setIfInBounds i true) a' w') a w
theorem AnyM.any : ∀ (f : Nat) (listed : Array Bool) (a : Act) (w : World), AnyM P md ops Q S m f listed a w → wpAny P md ops Q f listed a w
  | 0, _, _, _, h => h
  | f + 1, _, _, _, h => ⟨h.1, fun i hi => wpOp_mono (fun a' w' h' => AnyM.any f _ a' w' h'.2) (h.2 i hi)⟩
def waits (md : Region.Mode) (ops : Array Oper) (m i : Nat) : Bool := Nat.ble ops.size m || match ops[m]? with | some o => o.after.toList.any (fun e => Region.binds md e && e.on == i) | none => false
theorem AnyM.first {i : Nat} {oi : Oper} {v : Value} (hi : ops[i]? = some oi) (hsel : ∀ (j : Nat) (o : Oper) cs b, ops[j]? = some o → o.op ≠ .select cs b) (hm : waits md ops m i = true)
    (hQ : ∀ c a w, Q (.panic c) (a.put oi.dst v) w → Q (.panic c) a w) : ∀ (f : Nat) (listed : Array Bool) (a : Act) (w : World),
      (∀ j oj, ops[j]? = some oj → j ≠ i → listed.getD j true = false → (∀ e ∈ oj.after, Region.binds md e = true → e.on ≠ i) → oi.apart ops oj = true) →
      i ∈ Region.ready md ops listed → preM ops m listed = true → YieldsIf P ops S oi v a → S w →
      AnyM P md ops Q S m f (listed.setIfInBounds i true) (a.put oi.dst v) w → AnyM P md ops Q S m (f + 1) listed a w := by
  have hwait : ∀ (listed : Array Bool) (j : Nat), j ∈ Region.ready md ops listed → i ∈ Region.ready md ops listed → ∀ oj, ops[j]? = some oj → ∀ e ∈ oj.after, Region.binds md e = true → e.on ≠ i := by
    intro listed j hj hr oj hoj e he hb heq
    obtain ⟨_, oj', hoj', hall⟩ := mem_ready.1 hj
    obtain rfl := Option.some.inj (hoj.symm.trans hoj')
    have h1 := hall e he hb
    have h0 := (mem_ready.1 hr).1
    rw [heq] at h1
    by_cases hlt : i < listed.size
    · simp [hlt] at h0 h1; rw [h0] at h1; cases h1
    · simp [Array.getElem?_eq_none (by omega : listed.size ≤ i)] at h1
  intro f
  induction f with
  | zero =>
    intro listed a w _ hr _ hy hS H
    refine ⟨fun h => (by rw [h] at hr; cases hr), fun j hj => ?_⟩
    by_cases hji : j = i
    · subst hji; exact hy.wpOp hi hS ⟨fun _ => hS, H⟩
    · have h2 := ready_mono hj hji
      rw [H.1] at h2
      cases h2
  | succ f ih =>
    intro listed a w hfree hr hml hy hS H
    refine ⟨fun h => (by rw [h] at hr; cases hr), fun j hj => ?_⟩
    by_cases hji : j = i
    · subst hji; exact hy.wpOp hi hS ⟨fun _ => hS, H⟩
    · obtain ⟨hjun, oj, hoj, _⟩ := mem_ready.1 hj
      have hnot := hwait listed j hj hr oj hoj
      have hne : ∀ (j' : Nat) (oj' : Oper), ops[j']? = some oj' → j' ∈ Region.ready md ops listed → j' ≠ m := by
        rintro j' oj' hoj' hj' rfl
        unfold waits at hm
        rw [hoj', Bool.or_eq_true] at hm
        rcases hm with hm | hm
        · have h1 := Nat.le_of_ble_eq_true hm
          rw [Array.getElem?_eq_none h1] at hoj'
          cases hoj'
        · obtain ⟨e, he, hb⟩ := List.any_eq_true.1 hm
          rw [Bool.and_eq_true] at hb
          exact hwait listed j' hj' hr oj' hoj' e (by simpa using he) hb.1 (eq_of_beq hb.2)
      have hset : ∀ (l : Array Bool) (j' : Nat), j' ≠ m → preM ops m l = true → preM ops m (l.setIfInBounds j' true) = true := by
        intro l j' h1 h2
        unfold preM at h2 ⊢
        rw [getD_set_ne true h1]
        exact h2
      have hml' := hset listed j (hne j oj hoj hj) hml
      have h2 := wpOp_putIf hoj (hfree j oj hoj hji hjun hnot) (fun cs b => hsel i oi cs b hi) (fun cs b => hsel j oj cs b hoj) hQ hy (H.2 j (ready_mono hj hji))
      refine wpOp_mono (fun a' w' h3 => ?_) h2
      have hS' : S w' := h3.2.1 (by rw [← Array.setIfInBounds_comm _ _ hji]; exact hset _ i (hne i oi hi hr) hml')
      refine ⟨fun _ => hS', ih (listed.setIfInBounds j true) a' w' (fun k ok hk hki hun hno => hfree k ok hk hki ?_ hno) (ready_mono hr (Ne.symm hji)) hml' h3.1 hS' ?_⟩
      · by_cases hjk : j = k
        · subst hjk; exact hjun
        · rw [getD_set_ne true hjk] at hun; exact hun
      · rw [Array.setIfInBounds_comm _ _ hji]
        exact h3.2.2
theorem nextM (i : Nat) {o : Oper} {f : Nat} {listed : Array Bool} {a : Act} {w : World} (hr : Region.ready md ops listed = [i]) (ho : ops[i]? = some o)
    (h : ∀ K : Act → World → Prop, Shut (∀ a w, (preM ops m (listed.setIfInBounds i true) = true → S w) → AnyM P md ops Q S m f (listed.setIfInBounds i true) a w → K a w) → if Region.wanted o (yielded ops a.tmps) = true then Oper.wp P o a w K Q else K (a.put o.dst undef) w) :
    AnyM P md ops Q S m (f + 1) listed a w := by
  refine ⟨fun h0 => (by rw [hr] at h0; cases h0), fun j hj => ?_⟩
  rw [hr] at hj
  obtain rfl := List.mem_singleton.1 hj
  exact wpOp_step ho (fun K' hK => h K' (fun a w h1 h2 => hK a w ⟨h1, h2⟩))
theorem doneM {listed : Array Bool} {a : Act} {w : World} (hr : Region.ready md ops listed = []) (h : Q .normal a w) : ∀ f, AnyM P md ops Q S m f listed a w
  | 0 => ⟨hr, h⟩
  | _ + 1 => ⟨fun _ => h, by rw [hr]; simp⟩
end
section
variable {ops : Array Oper} {Q : Exit → Act → World → Prop} {md : Region.Mode} {a : Act} {w W : World} {fuel : Nat} {listed : Array Bool} {o : Oper} {ob : Option Nat} {m : Nat}
theorem beginB {id : Nat} (ob : Option Nat) (m n : Nat) (hn : ops.size = n) (hQ : NoFrame Q) (h : NoFrame Q → SO W ob W.drew → AnyM Try.prog .any ops Q (SO W ob) m n (Array.replicate n false) a W.drew) : (Code.region id ops true).wp Try.prog Q a W := by
  subst hn
  exact wp_region_any mixed (AnyM.any _ _ _ _ (h hQ (SO.start W ob)))
theorem takeY (i : Nat) (d : Tmp) (v : Value) (hi : ops[i]? = some o) (hs : Region.noSelect ops = true) (hf : Region.free md ops listed i = true) (hr : (Region.ready md ops listed).contains i = true) (hm : (waits md ops m i && preM ops m listed) = true) (hg : o.guard = none) (hd : o.dst = some d)
    (hQ : NoFrame Q) (hS : SO W ob w) (hv : ∀ w', SO W ob w' → (execOp a.eval o).run Try.prog w' = .ok (.value v) w')
    (h : AnyM Try.prog md ops Q (SO W ob) m fuel (listed.setIfInBounds i true) (a.put (some d) v) w) : AnyM Try.prog md ops Q (SO W ob) m (fuel + 1) listed a w := by
  rw [Bool.and_eq_true] at hm
  exact AnyM.first (oi := o) (v := v) hi (Region.noSelect_spec hs) hm.1 (fun c a w hh => hQ c _ _ w (put_defs a _ _) hh) fuel listed a w (Region.free_spec hi hf) (by simpa using hr) hm.2 (.inl ⟨by simp [Region.wanted, hg], hv⟩) hS (by rw [hd]; exact h)
theorem takeR (i : Nat) (d : Tmp) {ty : TypeId} {x : Operand} (hi : ops[i]? = some o) (hs : Region.noSelect ops = true) (hf : Region.free md ops listed i = true) (hr : (Region.ready md ops listed).contains i = true) (hm : (waits md ops m i && preM ops m listed) = true) (hg : o.guard = none) (hd : o.dst = some d) (hop : o.op = .load ty x)
    {g : Nat} {cs : Array Value} {t : TypeId} {fr : Nat × Nat} (hb : W.heap[g]? = some (.cells cs t fr)) (hne : some g ≠ ob) (hQ : NoFrame Q) (hS : SO W ob w) (hx : a.eval x = .pointer (some ⟨g, 0, none⟩)) (hT : RowTy ty cs.size)
    (h : AnyM Try.prog md ops Q (SO W ob) m fuel (listed.setIfInBounds i true) (a.put (some d) (.agg cs)) w) : AnyM Try.prog md ops Q (SO W ob) m (fuel + 1) listed a w :=
  takeY i d (.agg cs) hi hs hf hr hm hg hd hQ hS (fun w' hw' => by
    unfold execOp
    simp only [hop, hx, Instr.loadAt, Instr.sureAddr, Sem.run_bind, Sem.run_pure, Result.andThen_ok, runLd hT (hw'.at_ hb hne)]) h
theorem ldMg {ops : Array Oper} {rest : List Oper} {o : Oper} {a : Act} {w : World} {Q : Exit → Act → World → Prop} {ty : TypeId} {x : Operand} (hop : o.op = .load ty x) {g : Nat} {cs : Array Value} {t : TypeId} {fr : Nat × Nat} (hb : w.heap[g]? = some (.cells cs t fr)) (off : Nat) (ps : Array Value) (hw : Region.wanted o (yielded ops a.tmps) = true) (hx : a.eval x = .pointer (some ⟨g, off, none⟩)) (hT : RowTy ty ps.size) (hp : (cs.toList.drop off).take ps.size = ps.toList)
    (h : wpList Try.prog ops Q rest (a.put o.dst (.agg ps)) w) : wpList Try.prog ops Q (o :: rest) a w :=
  wpList_step fun K hK => by
    rw [if_pos hw]
    unfold Oper.wp execOp
    simp only [hop, hx, Instr.loadAt, Instr.sureAddr, Sem.run_bind, Sem.run_pure, Result.andThen_ok, runLdM hT hb rfl hp]
    exact hK _ _ h
theorem C_so {α : Type} {d : Kd α} {A : Option Addr} {n : Nat} {xs : List α} {w' : World} (hC : Kd.C d W A n xs) (hs : SO W ob w') (hne : ∀ ad, A = some ad → some ad.block ≠ ob) (hK : ∀ x c, d.K W x c → d.K w' x c) : Kd.C d w' A n xs := by
  refine ⟨hC.1, hC.2.1, fun h0 => ?_⟩
  obtain ⟨ad, e, h⟩ := hC.2.2 h0
  refine ⟨ad, e, fun j p hp => ?_⟩
  obtain ⟨c, h1, h2, h3⟩ := h j p hp
  refine ⟨c, h1, hK _ _ h2, fun i u hu => ?_⟩
  have h4 := h3 i u hu
  have hb := World.block_lt_of_cell? W _ h4
  have eb : (ad.add (j * d.sz + i)).block = ad.block := by unfold Addr.add; split <;> rfl
  have h5 := hs.blk _ hb (by rw [eb]; exact hne ad e)
  rw [← h4]; unfold World.cell?; rw [h5]
theorem takeC {α : Type} {dk : Kd α} (i : Nat) (d : Tmp) {ty : TypeId} {x : Operand} (hi : ops[i]? = some o) (hs : Region.noSelect ops = true) (hf : Region.free md ops listed i = true) (hr : (Region.ready md ops listed).contains i = true) (hm : (waits md ops m i && preM ops m listed) = true) (hg : o.guard = none) (hd : o.dst = some d) (hop : o.op = .load ty x)
    {ad : Addr} {n : Nat} {xs : List α} (hC : Kd.C dk W (some ad) n xs) (hne : some ad.block ≠ ob) (hK : ∀ w' x c, dk.K W x c → dk.K w' x c) (j : Nat) (z : α) (cs : List Value) (sz : Nat) (hj : j < n) (hk : ∀ w' c, dk.K w' (xs.getD j z) c → c = cs) (hQ : NoFrame Q) (hS : SO W ob w) (hx : a.eval x = .pointer (some (ad.add (j * sz)))) (hT : RowTy ty sz) (hsz : dk.sz = sz)
    (h : AnyM Try.prog md ops Q (SO W ob) m fuel (listed.setIfInBounds i true) (a.put (some d) (.agg cs.toArray)) w) : AnyM Try.prog md ops Q (SO W ob) m (fuel + 1) listed a w :=
  takeY i d (.agg cs.toArray) hi hs hf hr hm hg hd hQ hS (fun w' hw' => by
    unfold execOp
    simp only [hop, hx, Instr.loadAt, Instr.sureAddr, Sem.run_bind, Sem.run_pure, Result.andThen_ok, runLdC (C_so hC hw' (fun ad' e => by cases e; exact hne) (hK w')) j hj z cs (hk w') hT hsz]) h
end
theorem blk_id {W W0 : World} {g : Nat} {o : Obj} (h : W0.heap[g]? = some o) (e : W = W0) : W.heap[g]? = some o := e ▸ h
theorem wp_stR {o : Oper} {a : Act} {w : World} {K : Act → World → Prop} {Q : Exit → Act → World → Prop} {ty : TypeId} {x y : Operand} (hop : o.op = .store ty x y) {g : Nat} {old : Array Value} {t : TypeId} (hb : w.heap[g]? = some (.cells old t (0, 0))) (cs : Array Value) (hx : a.eval x = .pointer (some ⟨g, 0, none⟩)) (hy : a.eval y = .agg cs) (hT : RowTy ty cs.size) (ho : old.size = cs.size) (h1 : cs.toList.all (·.oneCell') = true)
    (h : ∀ W, Put1 w W g cs t → K (a.put o.dst undef) W) : o.wp Try.prog a w K Q := by
  obtain ⟨W, h2, h3⟩ := runSt hT hb ho h1
  unfold Oper.wp execOp
  simp only [hop, hx, hy, Instr.storeAt, Instr.sureAddr, Sem.run_bind, Sem.run_pure, Result.andThen_ok, h2]
  exact h W h3
abbrev hv (I : Value) (b : Int) (P : Value) (x c : S26) : Value := .agg #[I, .int .u64 b, P, .int .u8 x.f0, .int .u8 x.f1, .int .u8 x.f2, .int .u8 x.f3, .int .u8 x.f4, .int .u8 x.f5, .int .u8 x.f6, .int .u8 x.f7, .int .u8 x.f8, .int .u8 x.f9, .int .u8 x.f10, .int .u8 x.f11, .int .u8 x.f12, .int .u8 x.f13, .int .u8 x.f14, .int .u8 x.f15, .int .u8 c.f0, .int .u8 c.f1, .int .u8 c.f2, .int .u8 c.f3, .int .u8 c.f4, .int .u8 c.f5, .int .u8 c.f6, .int .u8 c.f7, .int .u8 c.f8, .int .u8 c.f9, .int .u8 c.f10, .int .u8 c.f11, .int .u8 c.f12, .int .u8 c.f13, .int .u8 c.f14, .int .u8 c.f15]
abbrev hc (I : Value) (b : Int) (P : Value) (x c : S26) : Array Value := #[I, .int .u64 b, P, .int .u8 x.f0, .int .u8 x.f1, .int .u8 x.f2, .int .u8 x.f3, .int .u8 x.f4, .int .u8 x.f5, .int .u8 x.f6, .int .u8 x.f7, .int .u8 x.f8, .int .u8 x.f9, .int .u8 x.f10, .int .u8 x.f11, .int .u8 x.f12, .int .u8 x.f13, .int .u8 x.f14, .int .u8 x.f15, .int .u8 c.f0, .int .u8 c.f1, .int .u8 c.f2, .int .u8 c.f3, .int .u8 c.f4, .int .u8 c.f5, .int .u8 c.f6, .int .u8 c.f7, .int .u8 c.f8, .int .u8 c.f9, .int .u8 c.f10, .int .u8 c.f11, .int .u8 c.f12, .int .u8 c.f13, .int .u8 c.f14, .int .u8 c.f15]
set_option maxRecDepth 100000 in
theorem info83 : (Try.prog.info? 83).map (fun i => (i.zero, i.size, i.bytes)) = some (some (.agg (lc 0 0 z26)), 18, 32) := by kernel_rfl
end Go.Proofs.Ytafhimeoijmolaa.K
namespace Go.Proofs.Ytafhimeoijmolaa.K
open Go.RowKit  Go.Proofs.YtafhimeoijmolaaW.PrintWords Go.Proofs.YtafhimeoijmolaaW.PrintLast Go.Proofs.YtafhimeoijmolaaW.PrintMore Go.Proofs.Ytafhimeoijmolaa.G
set_option linter.unusedVariables false
set_option linter.unusedSimpArgs false
attribute [local go_sem high] eqA26 eqA47 eqA111 eqA74
end Go.Proofs.Ytafhimeoijmolaa.K
namespace Go.Proofs.Ytafhimeoijmolaa.K
open Go.RowKit  Go.Proofs.YtafhimeoijmolaaW.PrintWords Go.Proofs.YtafhimeoijmolaaW.PrintLast Go.Proofs.YtafhimeoijmolaaW.PrintMore Go.Proofs.Ytafhimeoijmolaa.G
set_option linter.unusedVariables false
set_option linter.unusedSimpArgs false
section
variable {ops : Array Oper} {rest : List Oper} {o : Oper} {a : Act} {w : World} {Q : Exit → Act → World → Prop}
end
section
variable {ops : Array Oper} {Q : Exit → Act → World → Prop} {md : Region.Mode} {a : Act} {w W : World} {fuel : Nat} {listed : Array Bool} {o : Oper} {ob : Option Nat} {m : Nat}
end
theorem nextTwo {P : Program} {md : Region.Mode} {ops : Array Oper} {Q : Exit → Act → World → Prop} {S : World → Prop} {m : Nat} (i j : Nat) {o o2 : Oper} {f : Nat} {listed : Array Bool} {a : Act} {w : World} (hr : Region.ready md ops listed = [i, j]) (ho : ops[i]? = some o) (ho2 : ops[j]? = some o2)
    (h : ∀ K : Act → World → Prop, Shut (∀ a w, (preM ops m (listed.setIfInBounds i true) = true → S w) → AnyM P md ops Q S m f (listed.setIfInBounds i true) a w → K a w) → if Region.wanted o (yielded ops a.tmps) = true then Oper.wp P o a w K Q else K (a.put o.dst undef) w)
    (h2 : ∀ K : Act → World → Prop, Shut (∀ a w, (preM ops m (listed.setIfInBounds j true) = true → S w) → AnyM P md ops Q S m f (listed.setIfInBounds j true) a w → K a w) → if Region.wanted o2 (yielded ops a.tmps) = true then Oper.wp P o2 a w K Q else K (a.put o2.dst undef) w) :
    AnyM P md ops Q S m (f + 1) listed a w := by
  refine ⟨fun h0 => (by rw [hr] at h0; cases h0), fun k hk => ?_⟩
  rw [hr] at hk
  rcases List.mem_cons.1 hk with rfl | hk
  · exact wpOp_step ho (fun K' hK => h K' (fun a w h1 h2 => hK a w ⟨h1, h2⟩))
  · obtain rfl := List.mem_singleton.1 hk
    exact wpOp_step ho2 (fun K' hK => h2 K' (fun a w h1 h2 => hK a w ⟨h1, h2⟩))
def keq (x y : S26) : Bool := (x.f0 == y.f0 && (x.f1 == y.f1 && (x.f2 == y.f2 && (x.f3 == y.f3 && (x.f4 == y.f4 && (x.f5 == y.f5 && (x.f6 == y.f6 && (x.f7 == y.f7 && (x.f8 == y.f8 && (x.f9 == y.f9 && (x.f10 == y.f10 && (x.f11 == y.f11 && (x.f12 == y.f12 && (x.f13 == y.f13 && (x.f14 == y.f14 && (x.f15 == y.f15))))))))))))))))
theorem keq_iff {x y : S26} : keq x y = true ↔ x = y := by
  obtain ⟨x0, x1, x2, x3, x4, x5, x6, x7, x8, x9, x10, x11, x12, x13, x14, x15⟩ := x
  obtain ⟨y0, y1, y2, y3, y4, y5, y6, y7, y8, y9, y10, y11, y12, y13, y14, y15⟩ := y
  unfold keq
  simp only [Bool.and_eq_true, beq_iff_eq, S26.mk.injEq]
theorem keq_refl (x : S26) : keq x x = true := keq_iff.2 rfl
theorem eqK (d : Nat) (w : World) (x y : S26) : (Op.equalIn (d + 2) 26 (kv x) (kv y)).run Try.prog w = .ok (keq x y) w := eqA26 d w _ _ _ _ _ _ _ _ _ _ _ _ _ _ _ _ _ _ _ _ _ _ _ _ _ _ _ _ _ _ _ _
theorem eqK0 (d : Nat) (w : World) (x : S26) : (Op.equalIn (d + 2) 26 (kv x) (.agg #[.int .u8 0, .int .u8 0, .int .u8 0, .int .u8 0, .int .u8 0, .int .u8 0, .int .u8 0, .int .u8 0, .int .u8 0, .int .u8 0, .int .u8 0, .int .u8 0, .int .u8 0, .int .u8 0, .int .u8 0, .int .u8 0])).run Try.prog w = .ok (keq x z26) w := eqK d w x z26
end Go.Proofs.Ytafhimeoijmolaa.K
