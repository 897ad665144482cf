/- Texts of this claim, one behind the other, as far as they are used: X28, KJ, KM, T1, T2, T3, N6, KS, KT, KP, KY, N1, KZ, N3. -/
import Derived.Deep.QuietTactic
import Derived.BigQuiet
import Derived.Test.YtafhimeoijmolaaCoverSecretsM2
import Derived.Test.YtafhimeoijmolaaCoverSecretsM3
import Derived.Test.YtafhimeoijmolaaCoverSecretsM4
import Derived.Test.YtafhimeoijmolaaCoverSecretsM5
import Derived.Test.YtafhimeoijmolaaCoverSecretsM6
import Derived.Test.YtafhimeoijmolaaCoverSecretsM8
import Derived.Test.YtafhimeoijmolaaCoverSecretsM9
import Derived.Test.YtafhimeoijmolaaCoverSecretsM10
import Derived.Test.YtafhimeoijmolaaCoverSecretsM11
namespace Go.Proofs.Ytafhimeoijmolaa.G
open Go.RowKit Go.Proofs.YtafhimeoijmolaaW.PrintWords Go.Proofs.YtafhimeoijmolaaW.PrintLast Go.Proofs.YtafhimeoijmolaaW.PrintMore
set_option linter.unusedVariables false
set_option linter.unusedSimpArgs false
theorem blk_new (w : World) (o : Obj) : (w.alloc o).heap[w.heap.size]? = some o := World.alloc_heap_new w o
theorem blk_to {w w' : World} {g : Nat} {o : Obj} (h : w.heap[g]? = some o) (hb : Below w.heap.size w w') : w'.heap[g]? = some o := (hb.block g (Array.getElem?_eq_some_iff.1 h).1).trans h
end Go.Proofs.Ytafhimeoijmolaa.G
namespace Go.Proofs.Ytafhimeoijmolaa.K
open Go.RowKit  Go.Proofs.YtafhimeoijmolaaW.PrintWords Go.Proofs.YtafhimeoijmolaaW.PrintLast Go.Proofs.YtafhimeoijmolaaW.PrintMore Go.Proofs.Ytafhimeoijmolaa.G
set_option linter.unusedVariables false
set_option linter.unusedSimpArgs false
end Go.Proofs.Ytafhimeoijmolaa.K
namespace Go.Proofs.Ytafhimeoijmolaa.K
open Go.RowKit  Go.Proofs.YtafhimeoijmolaaW.PrintWords Go.Proofs.YtafhimeoijmolaaW.PrintLast Go.Proofs.YtafhimeoijmolaaW.PrintMore Go.Proofs.Ytafhimeoijmolaa.G
set_option linter.unusedVariables false
set_option linter.unusedSimpArgs false
abbrev sv (r : Int) (A : Option Addr) (n c : Nat) (p q : Int) : Value := .agg #[.int .i64 r, .slice A n c, .int .u64 p, .int .u64 q]
abbrev sc (r : Int) (A : Option Addr) (n c : Nat) (p q : Int) : Array Value := #[.int .i64 r, .slice A n c, .int .u64 p, .int .u64 q]
theorem k83_cs {w : World} {l : S83} (c : List Value) (h : k83.K w l c) : c = (lc l.f0 l.f1 l.f2).toList := k83_open h
end Go.Proofs.Ytafhimeoijmolaa.K
namespace Go.Proofs.Ytafhimeoijmolaa.G
open Go.RowKit Go.Proofs.YtafhimeoijmolaaW.PrintWords Go.Proofs.YtafhimeoijmolaaW.PrintLast Go.Proofs.YtafhimeoijmolaaW.PrintMore
set_option linter.unusedVariables false
set_option linter.unusedSimpArgs false
theorem up {α : Type} {g : Nat → Option α} (hm : ∀ k, LeO (g k) (g (k + 1))) {k0 k : Nat} {r : α} (h : g k0 = some r) (hk : k0 ≤ k) : g k = some r := by
  induction hk with
  | refl => exact h
  | step _ ih => exact hm _ _ ih
def opB (o : Option Bool) (b : Bool) : Bool := match o with | some x => x == b | none => false
theorem opB_eq {o : Option Bool} {b : Bool} (h : opB o b = true) : o = some b := by
  unfold opB at h
  split at h
  · rw [eq_of_beq h]
  · cases h
def opI (o : Option Int) (b : Nat) : Bool := match o with | some (.ofNat n) => Nat.beq n b | _ => false
theorem opI_eq {o : Option Int} {b : Nat} (h : opI o b = true) : o = some (b : Int) := by
  unfold opI at h
  split at h
  · rw [Nat.eq_of_beq_eq_true h]; rfl
  · cases h
def all1 (n : Nat) (p : Nat → Bool) : Bool := (List.range n).all p
theorem all1_at {n : Nat} {p : Nat → Bool} (h : all1 n p = true) {v : Nat} (hv : v < n) : p v = true := List.all_eq_true.1 h v (List.mem_range.2 hv)
def all2 (n m : Nat) (p : Nat → Nat → Bool) : Bool := (List.range n).all fun v => (List.range m).all fun w => p v w
theorem all2_at {n m : Nat} {p : Nat → Nat → Bool} (h : all2 n m p = true) {v w : Nat} (hv : v < n) (hw : w < m) : p v w = true := List.all_eq_true.1 (List.all_eq_true.1 h v (List.mem_range.2 hv)) w (List.mem_range.2 hw)
def blw (w v : Nat) : Bool := Nat.ble 1 v && (Nat.ble v w && Nat.beq (w >>> (Nat.log2 w - Nat.log2 v)) v)
def strd (d : Nat) : Nat := if Nat.ble d 1 then 1 else if Nat.ble d 4 then 2 else 3
def spc (s v : Nat) : Bool := Nat.beq (Nat.log2 v % s) 0
def nodesTo (v w : Nat) : List Nat := (List.range (Nat.log2 w - Nat.log2 v)).map fun i => w >>> (Nat.log2 w - Nat.log2 v - 1 - i)
def cutN (s v w : Nat) : Nat := ((nodesTo v (w >>> 1)).find? (spc s)).getD 0
def sub3 (kind s v w : Nat) : Bool := Nat.beq kind 2 || (spc s v || Nat.beq (cutN s v w) 0)
def subI (kind d : Nat) (v w : Int) : Bool :=
  decide (1 ≤ v) && (decide (v < 2 ^ (d + 1)) && (if kind = 1 then decide (w = 0) else if w = 0 then decide (v = 1) else
    decide (1 ≤ w) && (decide (w < 2 ^ (d + 1)) && (!decide (w = v) && (blw w.toNat v.toNat && sub3 kind (strd d) v.toNat w.toNat)))))
theorem below_fin : all2 128 128 (fun w v => opB (cover_node_below.f 2 (w : Int) (v : Int)) (blw w v)) = true := by kernel_rfl
theorem below_n {w v k : Nat} (hw : w < 128) (hv : v < 128) (hk : 2 ≤ k) : cover_node_below.f k (w : Int) (v : Int) = some (blw w v) :=
  up (fun k => cover_node_below.mono _ _ k) (opB_eq (all2_at below_fin hw hv)) hk
theorem strd_pos (d : Nat) : 1 ≤ strd d := by unfold strd; split; omega; split <;> omega
theorem strd_le (d : Nat) : strd d ≤ 3 := by unfold strd; split; omega; split <;> omega
theorem special_fin : all2 4 128 (fun s v => Nat.beq s 0 || (Nat.beq v 0 || opB (cover_tree_special.f 0 0 (s : Int) (v : Int)) (spc s v))) = true := by kernel_rfl
theorem special_n {s v : Nat} (a b : Int) (hs : 1 ≤ s) (hs3 : s ≤ 3) (h0 : 1 ≤ v) (h : v < 128) : cover_tree_special.f a b (s : Int) (v : Int) = some (spc s v) := by
  have e : cover_tree_special.f a b (s : Int) (v : Int) = cover_tree_special.f 0 0 (s : Int) (v : Int) := rfl
  have h1 := all2_at special_fin (show s < 4 by omega) h
  have h2 : Nat.beq s 0 = false := by cases s with | zero => omega | succ n => rfl
  have h3 : Nat.beq v 0 = false := by cases v with | zero => omega | succ n => rfl
  rw [h2, h3] at h1
  rw [e]
  exact opB_eq (by simpa using h1)
theorem cut_fin : all1 4 (fun s => all2 128 128 (fun v w => Nat.beq s 0 || (!(blw w v && !Nat.beq w v) || opI (cover_tree_cut.f 0 0 (s : Int) (v : Int) (w : Int)) (cutN s v w)))) = true := by kernel_rfl
theorem cut_n {s v w : Nat} (a b : Int) (hs : 1 ≤ s) (hs3 : s ≤ 3) (hv : v < 128) (hw : w < 128) (hb : blw w v = true) (hne : w ≠ v) : cover_tree_cut.f a b (s : Int) (v : Int) (w : Int) = some (cutN s v w : Int) := by
  have h1 := all2_at (all1_at cut_fin (show s < 4 by omega)) hv hw
  have h2 : Nat.beq s 0 = false := by cases s with | zero => omega | succ n => rfl
  have h3 : Nat.beq w v = false := by
    cases e : Nat.beq w v with
    | false => rfl
    | true => exact absurd (Nat.eq_of_beq_eq_true e) hne
  rw [h2, h3, hb] at h1
  have e : ∀ xs, firstF a b (s : Int) xs = firstF 0 0 (s : Int) xs := by
    intro xs
    induction xs with
    | nil => rfl
    | cons x xs ih => simp only [firstF]; rw [ih]; rfl
  have e2 : cover_tree_cut.f a b (s : Int) (v : Int) (w : Int) = cover_tree_cut.f 0 0 (s : Int) (v : Int) (w : Int) := by
    unfold cover_tree_cut.f
    split
    · rfl
    · congr 1; funext xs; exact e xs
  rw [e2]
  exact opI_eq (by simpa using h1)
def ValidI (a0 a1 a2 a3 a4 a5 : Int) : Prop := 1 ≤ a0 ∧ a0 ≤ 3 ∧ 0 ≤ a1 ∧ a1 ≤ 6 ∧ a2 = 0 ∧ a3 = 0 ∧ a4 = 0 ∧ a5 = 0
theorem treeOf_fin : all2 4 7 (fun a d => Nat.beq a 0 || (match cover_treeOf.f 5 (a : Int) (d : Int) 0 0 0 0 with | some (.ofNat x, .ofNat y, .ofNat z, b) => Nat.beq x a && (Nat.beq y d && (Nat.beq z (strd d) && b)) | _ => false)) = true := by kernel_rfl
theorem treeOf_n {a d k : Nat} (ha : 1 ≤ a) (ha3 : a ≤ 3) (hd : d ≤ 6) (hk : 5 ≤ k) : cover_treeOf.f k (a : Int) (d : Int) 0 0 0 0 = some ((a : Int), (d : Int), (strd d : Int), true) := by
  have h1 := all2_at treeOf_fin (show a < 4 by omega) (show d < 7 by omega)
  have h2 : Nat.beq a 0 = false := by cases a with | zero => omega | succ n => rfl
  rw [h2] at h1
  refine up (fun k => cover_treeOf.mono _ _ _ _ _ _ k) (k0 := 5) ?_ hk
  simp only [Bool.false_or] at h1
  split at h1
  · rename_i x y z b e
    rw [e]
    simp only [Bool.and_eq_true] at h1
    obtain ⟨e1, e2, e3, e4⟩ := h1
    rw [Nat.eq_of_beq_eq_true e1, Nat.eq_of_beq_eq_true e2, Nat.eq_of_beq_eq_true e3, e4]
    rfl
  · cases h1
theorem treeOf_bad {a0 a1 a2 a3 a4 a5 : Int} {k : Nat} (h : ¬ ValidI a0 a1 a2 a3 a4 a5) (hk : 1 ≤ k) : cover_treeOf.f k a0 a1 a2 a3 a4 a5 = some (0, 0, 0, false) := by
  obtain ⟨k, rfl⟩ : ∃ m, k = m + 1 := ⟨k - 1, by omega⟩
  unfold cover_treeOf.f
  have hj : cover_treeOf.j0 (k + 1) true a0 a1 a2 a3 a4 a5 = some (0, 0, 0, false) := by simp only [cover_treeOf.j0]; rfl
  split
  · exact hj
  split
  · exact hj
  split
  · exact hj
  split
  · exact hj
  have hb : (!(a2 == 0) || ((!(a3 == 0) || (!(a4 == 0) || (!(a5 == 0)))))) = true := by
    unfold ValidI at h
    by_cases e2 : a2 = 0
    · by_cases e3 : a3 = 0
      · by_cases e4 : a4 = 0
        · by_cases e5 : a5 = 0
          · exact absurd ⟨by omega, by omega, by omega, by omega, e2, e3, e4, e5⟩ h
          · simp [e5]
        · simp [e4]
      · simp [e3]
    · simp [e2]
  rw [hb]
  exact hj
theorem size_n {d : Nat} (a c : Int) (hd : d ≤ 6) : cover_tree_size.f a (d : Int) c = some ((2 ^ d : Nat) : Int) := by
  match d, hd with
  | 0, _ => rfl
  | 1, _ => rfl
  | 2, _ => rfl
  | 3, _ => rfl
  | 4, _ => rfl
  | 5, _ => rfl
  | 6, _ => rfl
theorem pow_le64 {d : Nat} (hd : d ≤ 6) : 2 ^ d ≤ 64 ∧ 1 ≤ 2 ^ d := by
  match d, hd with
  | 0, _ => decide
  | 1, _ => decide
  | 2, _ => decide
  | 3, _ => decide
  | 4, _ => decide
  | 5, _ => decide
  | 6, _ => decide
theorem has_n {d : Nat} (a c v : Int) (hd : d ≤ 6) : cover_tree_has.f a (d : Int) c v = some (decide (1 ≤ v) && decide (v < 2 ^ (d + 1))) := by
  have hp := pow_le64 hd
  unfold cover_tree_has.f
  rw [size_n a c hd]
  have e : wrap64 (2 * ((2 ^ d : Nat) : Int)) = 2 ^ (d + 1) := by
    have h : (2 : Int) ^ (d + 1) = 2 * ((2 ^ d : Nat) : Int) := by rw [Int.pow_succ]; push_cast; omega
    rw [h]
    unfold wrap64
    omega
  split
  · rename_i h
    simp only [Option.bind_some, e]
    have h' : decide (1 ≤ v) = true := decide_eq_true h
    rw [h']; rfl
  · rename_i h
    have h' : decide (1 ≤ v) = false := decide_eq_false h
    rw [h']; rfl
end Go.Proofs.Ytafhimeoijmolaa.G
namespace Go.Proofs.Ytafhimeoijmolaa.G
open Go.RowKit Go.Proofs.YtafhimeoijmolaaW.PrintWords Go.Proofs.YtafhimeoijmolaaW.PrintLast Go.Proofs.YtafhimeoijmolaaW.PrintMore
set_option linter.unusedVariables false
set_option linter.unusedSimpArgs false
theorem pow_lt128 {d : Nat} (hd : d ≤ 6) : 2 ^ (d + 1) ≤ 128 := by
  have := pow_le64 hd
  rw [Nat.pow_succ]; omega
theorem int_pow (d : Nat) : (2 : Int) ^ (d + 1) = ((2 ^ (d + 1) : Nat) : Int) := by push_cast; rfl
theorem node_nat {d : Nat} {v : Int} (hd : d ≤ 6) (h1 : 1 ≤ v) (h2 : v < 2 ^ (d + 1)) : ∃ n : Nat, v = n ∧ 1 ≤ n ∧ n < 2 ^ (d + 1) ∧ n < 128 := by
  rw [int_pow] at h2
  have := pow_lt128 hd
  exact ⟨v.toNat, by omega, by omega, by omega, by omega⟩
theorem subset_n {a d k : Nat} (v w : Int) (ha : 1 ≤ a) (ha3 : a ≤ 3) (hd : d ≤ 6) (hk : 4 ≤ k) : cover_tree_subset.f k (a : Int) (d : Int) (strd d : Int) v w = some (subI a d v w) := by
  obtain ⟨k, rfl⟩ : ∃ m, k = m + 2 := ⟨k - 2, by omega⟩
  unfold cover_tree_subset.f subI
  rw [has_n _ _ v hd]
  simp only [Option.bind_some]
  by_cases h1 : 1 ≤ v
  · by_cases h2 : v < 2 ^ (d + 1)
    · rw [decide_eq_true h1, decide_eq_true h2]
      simp only [Bool.and_self, if_true, Bool.true_and]
      obtain ⟨n, rfl, hn1, hn2, hn3⟩ := node_nat hd h1 h2
      by_cases e1 : a = 1
      · subst e1
        by_cases hw : w = 0 <;> simp [hw, cover_tree_subset.j0]
      · have e1' : ¬ ((a : Int) = 1) := by omega
        rw [if_neg e1', if_neg e1]
        by_cases hw : w = 0
        · subst hw
          simp only [cover_tree_subset.j0, beq_self_eq_true, if_true, if_neg e1']
          congr 1
        · have hw' : (w == 0) = false := by simp [hw]
          rw [hw', if_neg hw]
          simp only [cover_tree_subset.j0, Bool.false_eq_true, if_false]
          rw [has_n _ _ w hd]
          simp only [Option.bind_some]
          by_cases h3 : 1 ≤ w
          · by_cases h4 : w < 2 ^ (d + 1)
            · rw [decide_eq_true h3, decide_eq_true h4]
              obtain ⟨m, rfl, hm1, hm2, hm3⟩ := node_nat hd h3 h4
              simp only [Bool.and_self, if_true, Bool.true_and]
              by_cases h5 : (m : Int) = n
              · rw [if_pos h5, decide_eq_true h5]
                simp only [cover_tree_subset.j1, if_true, Bool.not_true, Bool.false_and]
              · rw [if_neg h5, decide_eq_false h5, below_n hm3 hn3 (by omega)]
                simp only [Option.bind_some, Bool.not_false, Bool.true_and, Int.toNat_natCast]
                cases hb : blw m n with
                | false => simp only [Bool.not_false, cover_tree_subset.j1, if_true, Bool.false_and]
                | true =>
                  simp only [Bool.not_true, cover_tree_subset.j1, Bool.false_eq_true, if_false, Bool.true_and]
                  unfold sub3
                  by_cases e2 : a = 2
                  · subst e2; rfl
                  · have e2' : ¬ ((a : Int) = 2) := by omega
                    have e2'' : Nat.beq a 2 = false := by
                      cases e : Nat.beq a 2 with
                      | false => rfl
                      | true => exact absurd (Nat.eq_of_beq_eq_true e) e2
                    rw [if_neg e2', e2'', special_n _ _ (strd_pos d) (strd_le d) hn1 hn3]
                    simp only [Option.bind_some, Bool.false_or]
                    cases hs : spc (strd d) n with
                    | true => rfl
                    | false =>
                      rw [cut_n _ _ (strd_pos d) (strd_le d) hn3 hm3 hb (by omega)]
                      simp only [Bool.false_eq_true, if_false, Option.bind_some, Bool.false_or]
                      congr 1
                      cases cutN (strd d) n m with
                      | zero => rfl
                      | succ c =>
                        have h9 : (((c + 1 : Nat) : Int) == 0) = false := by rw [beq_eq_false_iff_ne]; omega
                        rw [h9]; rfl
            · rw [decide_eq_false h4]
              simp only [Bool.and_false, Bool.false_eq_true, if_false, cover_tree_subset.j1, if_true, Bool.false_and]
          · rw [decide_eq_false h3]
            simp only [Bool.false_and, Bool.false_eq_true, if_false, cover_tree_subset.j1, if_true]
    · rw [decide_eq_false h2]
      simp only [Bool.and_false, Bool.false_eq_true, if_false, Bool.false_and]
  · rw [decide_eq_false h1]
    simp only [Bool.false_and, Bool.false_eq_true, if_false]
theorem enter_bad {a0 a1 a2 a3 a4 a5 : Int} {k : Nat} (l : List S47) (h : ¬ ValidI a0 a1 a2 a3 a4 a5) (hk : 1 ≤ k) : cover_enter.f k a0 a1 a2 a3 a4 a5 l = some (0, 0, 0, 30) := by
  unfold cover_enter.f
  rw [treeOf_bad h hk]
  simp
end Go.Proofs.Ytafhimeoijmolaa.G
namespace Go.Proofs.Ytafhimeoijmolaa.G
open Go.RowKit Go.Proofs.YtafhimeoijmolaaW.PrintWords Go.Proofs.YtafhimeoijmolaaW.PrintLast Go.Proofs.YtafhimeoijmolaaW.PrintMore
set_option linter.unusedVariables false
set_option linter.unusedSimpArgs false
def listEq : List Int → List Nat → Bool
  | [], [] => true
  | .ofNat a :: l, b :: m => Nat.beq a b && listEq l m
  | _, _ => false
theorem listEq_eq : ∀ {l : List Int} {m : List Nat}, listEq l m = true → l = m.map Int.ofNat
  | [], [], _ => rfl
  | .ofNat a :: l, b :: m, h => by
    simp only [listEq, Bool.and_eq_true] at h
    rw [Nat.eq_of_beq_eq_true h.1, listEq_eq h.2]; rfl
  | [], b :: m, h => by cases h
  | .ofNat a :: l, [], h => by cases h
  | .negSucc a :: l, m, h => by cases m <;> cases h
def opL (o : Option (List Int)) (m : List Nat) : Bool := match o with | some l => listEq l m | none => false
theorem opL_eq {o : Option (List Int)} {m : List Nat} (h : opL o m = true) : o = some (m.map Int.ofNat) := by
  unfold opL at h
  split at h
  · rw [listEq_eq h]
  · cases h
theorem rReceivers_fin : all1 7 (fun d => opI (headendref03_Receivers.f 10 (d : Int)) (2 ^ d)) = true := by kernel_rfl
theorem rReceivers_n {d k : Nat} (hd : d ≤ 6) (hk : 10 ≤ k) : headendref03_Receivers.f k (d : Int) = some ((2 ^ d : Nat) : Int) :=
  up (fun k => headendref03_Receivers.mono _ k) (opI_eq (all1_at rReceivers_fin (by omega))) hk
theorem beq_ne {a b : Nat} (h : a ≠ b) : Nat.beq a b = false := by
  cases e : Nat.beq a b with
  | false => rfl
  | true => exact absurd (Nat.eq_of_beq_eq_true e) h
theorem rPath_fin : all2 128 128 (fun v w => !blw w v || opL (headendref03_Path.f 20 (v : Int) (w : Int)) (v :: nodesTo v w)) = true := by kernel_rfl
theorem rPath_n {v w k : Nat} (hv : v < 128) (hw : w < 128) (hb : blw w v = true) (hk : 20 ≤ k) : headendref03_Path.f k (v : Int) (w : Int) = some ((v :: nodesTo v w).map Int.ofNat) := by
  have h1 := all2_at rPath_fin hv hw
  rw [hb] at h1
  exact up (fun k => headendref03_Path.mono _ _ k) (opL_eq (by simpa using h1)) hk
theorem rValid_good {a d : Nat} (ha : 1 ≤ a) (ha3 : a ≤ 3) (hd : d ≤ 6) : headendref03_Valid.f (a : Int) (d : Int) 0 0 0 0 = some true := by
  unfold headendref03_Valid.f
  rw [if_pos (by omega), if_pos (by omega), if_pos (by omega), if_pos (by omega)]
  simp
theorem rValid_bad {a0 a1 a2 a3 a4 a5 : Int} (h : ¬ ValidI a0 a1 a2 a3 a4 a5) : headendref03_Valid.f a0 a1 a2 a3 a4 a5 = some false := by
  unfold headendref03_Valid.f
  split
  · split
    · split
      · split
        · split
          · have hb : (a3 == 0 && (a4 == 0 && (a5 == 0))) = false := by
              unfold ValidI at h
              by_cases e3 : a3 = 0
              · by_cases e4 : a4 = 0
                · by_cases e5 : a5 = 0
                  · exact absurd ⟨by omega, by omega, by omega, by omega, by omega, e3, e4, e5⟩ h
                  · simp [e5]
                · simp [e4]
              · simp [e3]
            rw [hb]
          · rfl
        · rfl
      · rfl
    · rfl
  · rfl
theorem ValidI.nat {a0 a1 a2 a3 a4 a5 : Int} (h : ValidI a0 a1 a2 a3 a4 a5) : ∃ a d : Nat, a0 = a ∧ a1 = d ∧ 1 ≤ a ∧ a ≤ 3 ∧ d ≤ 6 ∧ a2 = 0 ∧ a3 = 0 ∧ a4 = 0 ∧ a5 = 0 := by
  obtain ⟨h1, h2, h3, h4, h5, h6, h7, h8⟩ := h
  exact ⟨a0.toNat, a1.toNat, by omega, by omega, by omega, by omega, by omega, h5, h6, h7, h8⟩
theorem subI_nat {a d : Nat} {v w : Int} (ha : 1 ≤ a) (hd : d ≤ 6) (h : subI a d v w = true) : ∃ n m : Nat, v = n ∧ w = m ∧ 1 ≤ n ∧ n < 2 ^ (d + 1) ∧ n < 128 ∧ m < 2 ^ (d + 1) ∧ m < 128 := by
  have hp := pow_lt128 hd
  have hp1 : 1 ≤ 2 ^ (d + 1) := Nat.one_le_two_pow
  unfold subI at h
  simp only [Bool.and_eq_true, decide_eq_true_eq] at h
  obtain ⟨h1, h2, h3⟩ := h
  obtain ⟨n, rfl, hn1, hn2, hn3⟩ := node_nat hd h1 h2
  split at h3
  · have hw : w = 0 := of_decide_eq_true h3
    exact ⟨n, 0, rfl, hw, hn1, hn2, hn3, by omega, by omega⟩
  · split at h3
    · rename_i hw
      exact ⟨n, 0, rfl, hw, hn1, hn2, hn3, by omega, by omega⟩
    · simp only [Bool.and_eq_true, decide_eq_true_eq] at h3
      obtain ⟨m, rfl, hm1, hm2, hm3⟩ := node_nat hd h3.1 h3.2.1
      exact ⟨n, m, rfl, rfl, hn1, hn2, hn3, hm2, hm3⟩
end Go.Proofs.Ytafhimeoijmolaa.G
namespace Go.Proofs.Ytafhimeoijmolaa.K
open Go.RowKit  Go.Proofs.YtafhimeoijmolaaW.PrintWords Go.Proofs.YtafhimeoijmolaaW.PrintLast Go.Proofs.YtafhimeoijmolaaW.PrintMore Go.Proofs.Ytafhimeoijmolaa.G
set_option linter.unusedVariables false
set_option linter.unusedSimpArgs false
def sameLab : List (Int × Int) → List S47 → Bool
  | [], [] => true
  | (.ofNat a, .ofNat b) :: xs, ⟨.ofNat c, .ofNat d⟩ :: ys => Nat.beq a c && (Nat.beq b d && ((Nat.beq b 0 || (pathF 9 (Int.ofNat a) (Int.ofNat b)).isSome) && sameLab xs ys))
  | _, _ => false
theorem sameLab_eq : ∀ (xs : List (Int × Int)) (ys : List S47), sameLab xs ys = true → xs = ys.map (fun y => (y.f0, y.f1)) ∧ ∀ x ∈ xs, x.2 ≠ 0 → ∃ ps, pathF 9 x.1 x.2 = some ps
  | [], [], _ => ⟨rfl, fun _ h => by cases h⟩
  | (.ofNat a, .ofNat b) :: xs, ⟨.ofNat c, .ofNat d⟩ :: ys, h => by
    unfold sameLab at h
    simp only [Bool.and_eq_true, Bool.or_eq_true] at h
    obtain ⟨h1, h2, h3, h4⟩ := h
    obtain ⟨e, hp⟩ := sameLab_eq xs ys h4
    refine ⟨by rw [Nat.eq_of_beq_eq_true h1, Nat.eq_of_beq_eq_true h2, e]; rfl, ?_⟩
    intro x hx hne
    rcases List.mem_cons.1 hx with rfl | hx
    · rcases h3 with h3 | h3
      · exact absurd (by rw [Nat.eq_of_beq_eq_true h3]; rfl) hne
      · exact Option.isSome_iff_exists.1 h3
    · exact hp x hx hne
  | [], _ :: _, h => by simp [sameLab] at h
  | _ :: _, [], h => by unfold sameLab at h; split at h <;> simp_all
  | (.negSucc _, _) :: _, _ :: _, h => by simp [sameLab] at h
  | (.ofNat _, .negSucc _) :: _, _ :: _, h => by simp [sameLab] at h
  | (.ofNat _, .ofNat _) :: _, ⟨.negSucc _, _⟩ :: _, h => by simp [sameLab] at h
  | (.ofNat _, .ofNat _) :: _, ⟨.ofNat _, .negSucc _⟩ :: _, h => by simp [sameLab] at h
def labOk (a d u : Nat) : Bool := match labelsF (a : Int) (d : Int) (strd d : Int) (u : Int), headendref03_LabelsOf.f 100 (a : Int) (d : Int) 0 0 0 0 (u : Int) with
  | some xs, some l => Nat.ble xs.length 64 && sameLab xs l
  | _, _ => false
set_option maxRecDepth 100000 in
theorem lab_fin : all2 4 7 (fun a d => Nat.beq a 0 || (List.range (2 ^ d)).all (fun u => labOk a d u)) = true := by kernel_rfl
theorem lab_n {a d u : Nat} (ha : 1 ≤ a) (ha3 : a ≤ 3) (hd : d ≤ 6) (hu : u < 2 ^ d) : ∃ xs l, labelsF (a : Int) (d : Int) (strd d : Int) (u : Int) = some xs ∧ headendref03_LabelsOf.f 100 (a : Int) (d : Int) 0 0 0 0 (u : Int) = some l ∧ xs.length ≤ 64 ∧ xs = l.map (fun y => (y.f0, y.f1)) ∧ ∀ x ∈ xs, x.2 ≠ 0 → ∃ ps, pathF 9 x.1 x.2 = some ps := by
  have h := all2_at lab_fin (show a < 4 by omega) (show d < 7 by omega)
  rw [beq_ne (show a ≠ 0 by omega)] at h
  simp only [Bool.false_or] at h
  have h2 := List.all_eq_true.1 h u (List.mem_range.2 hu)
  unfold labOk at h2
  split at h2
  · rename_i xs l e1 e2
    simp only [Bool.and_eq_true] at h2
    obtain ⟨h3, h4⟩ := sameLab_eq xs l h2.2
    exact ⟨xs, l, e1, e2, Nat.le_of_ble_eq_true h2.1, h3, h4⟩
  · cases h2
end Go.Proofs.Ytafhimeoijmolaa.K
namespace Go.Proofs.Ytafhimeoijmolaa.K
open Go.RowKit  Go.Proofs.YtafhimeoijmolaaW.PrintWords Go.Proofs.YtafhimeoijmolaaW.PrintLast Go.Proofs.YtafhimeoijmolaaW.PrintMore Go.Proofs.Ytafhimeoijmolaa.G
set_option linter.unusedVariables false
set_option linter.unusedSimpArgs false
theorem k47_cs {w : World} {l : S47} (c : List Value) (h : k47.K w l c) : c = [.int .i64 l.f0, .int .i64 l.f1] := k47_open h
theorem drop_cons' {α : Type} (l : List α) (i : Nat) (h : i < l.length) (z : α) : l.take (i + 1) = l.take i ++ [l.getD i z] := by
  rw [List.take_succ_eq_append_getElem h]; simp [h]
end Go.Proofs.Ytafhimeoijmolaa.K
namespace Go.Proofs.Ytafhimeoijmolaa.K
open Go.RowKit  Go.Proofs.YtafhimeoijmolaaW.PrintWords Go.Proofs.YtafhimeoijmolaaW.PrintLast Go.Proofs.YtafhimeoijmolaaW.PrintMore Go.Proofs.Ytafhimeoijmolaa.G
set_option linter.unusedVariables false
set_option linter.unusedSimpArgs false
end Go.Proofs.Ytafhimeoijmolaa.K
namespace Go.Proofs.Ytafhimeoijmolaa.G
open Go.RowKit Go.Proofs.YtafhimeoijmolaaW.PrintWords Go.Proofs.YtafhimeoijmolaaW.PrintLast Go.Proofs.YtafhimeoijmolaaW.PrintMore
set_option linter.unusedVariables false
set_option linter.unusedSimpArgs false
theorem path_fin : all2 128 128 (fun v w => !(blw w v) || opL (pathF 9 (v : Int) (w : Int)) (nodesTo v w)) = true := by kernel_rfl
theorem path_n {v w : Nat} (hv : v < 128) (hw : w < 128) (hb : blw w v = true) : pathF 9 (v : Int) (w : Int) = some ((nodesTo v w).map Int.ofNat) := by
  have h1 := all2_at path_fin hv hw
  rw [hb] at h1
  exact opL_eq (by simpa using h1)
theorem sub_below' {a d n m : Nat} (ha : 1 ≤ a) (h : subI a d (n : Int) (m : Int) = true) (h1 : a ≠ 1) (h2 : m ≠ 0) : blw m n = true ∧ m ≠ n := by
  unfold subI at h
  simp only [Bool.and_eq_true, decide_eq_true_eq] at h
  obtain ⟨_, _, h3⟩ := h
  rw [if_neg h1, if_neg (by omega)] at h3
  simp only [Bool.and_eq_true, decide_eq_true_eq, Bool.not_eq_true', decide_eq_false_iff_not, Int.toNat_natCast] at h3
  exact ⟨h3.2.2.2.1, by omega⟩
def subAll (a d : Nat) (l : List S47) : Bool := l.all fun x => subI a d x.f0 x.f1
theorem subAll_cons (a d : Nat) (y : S47) (l : List S47) : subAll a d (y :: l) = (subI a d y.f0 y.f1 && subAll a d l) := rfl
theorem enter_l0 {a d : Nat} (l : List S47) (hl : l.length ≤ 1000) (ha : 1 ≤ a) (ha3 : a ≤ 3) (hd : d ≤ 6) : ∀ (n i k : Nat), i + n = l.length → n + 5 ≤ k →
    cover_enter.l0 k l (l.length : Int) (i : Int) (a : Int) (d : Int) (strd d : Int) = if subAll a d (l.drop i) = true then some ((a : Int), (d : Int), (strd d : Int), 0) else some (0, 0, 0, 31)
  | 0, i, k, hi, hk => by
    obtain ⟨k, rfl⟩ : ∃ m, k = m + 1 := ⟨k - 1, by omega⟩
    rw [cover_enter.l0, if_neg (by omega), List.drop_of_length_le (by omega)]
    rfl
  | n + 1, i, k, hi, hk => by
    obtain ⟨k, rfl⟩ : ∃ m, k = m + 1 := ⟨k - 1, by omega⟩
    have hlt : i < l.length := by omega
    have hr : rd_T47 l (i : Int) = l[i] := by unfold rd_T47; simp [hlt]
    have hd' : l.drop i = l[i] :: l.drop (i + 1) := List.drop_eq_getElem_cons hlt
    rw [cover_enter.l0, if_pos (by omega), if_pos (by omega), if_pos (by omega), hr, subset_n _ _ ha ha3 hd (by omega), hd']
    simp only [Option.bind_some]
    obtain ⟨y, hy⟩ : ∃ y, y = l[i] := ⟨_, rfl⟩
    rw [← hy]
    have hw : wrap64 ((i : Int) + 1) = ((i + 1 : Nat) : Int) := by unfold wrap64; omega
    by_cases hs : subI a d y.f0 y.f1 = true
    · rw [if_pos hs, subAll_cons, hs, Bool.true_and, hw, enter_l0 l hl ha ha3 hd n (i + 1) k (by omega) (by omega)]
    · rw [if_neg hs, subAll_cons, Bool.eq_false_iff.mpr hs, Bool.false_and, if_neg (by simp)]
theorem enter_list {a d : Nat} (l : List S47) (hl : l.length ≤ 64) (ha : 1 ≤ a) (ha3 : a ≤ 3) (hd : d ≤ 6) :
    cover_enter.f 70 (a : Int) (d : Int) 0 0 0 0 l = if subAll a d l = true then some ((a : Int), (d : Int), (strd d : Int), 0) else some (0, 0, 0, 31) := by
  unfold cover_enter.f
  rw [treeOf_n ha ha3 hd (by omega)]
  simp only [Option.bind_some, if_true]
  have h := enter_l0 l (by omega) ha ha3 hd l.length 0 70 (by omega) (by omega)
  rw [List.drop_zero] at h
  exact h
end Go.Proofs.Ytafhimeoijmolaa.G
namespace Go.Proofs.Ytafhimeoijmolaa.K
open Go.RowKit Go.Shelf Go.Proofs.Ytafhimeoijmolaa.R9 Go.Proofs.YtafhimeoijmolaaW.PrintWords Go.Proofs.YtafhimeoijmolaaW.PrintLast Go.Proofs.YtafhimeoijmolaaW.PrintMore Go.Proofs.Ytafhimeoijmolaa.G
set_option linter.unusedVariables false
set_option linter.unusedSimpArgs false
attribute [local go_sem] Oper.semAt_some
theorem R_append_in {F : Fence} {m : Nat} {P : Program} {ops : Array Oper} {rest : List Oper} {o : Oper} {a : Act} {Q : Exit → Act → World → Prop} {α : Type} (d : Kd α) {w0 W : World} (base : Nat) (hgd : o.guard = none) (s x : Operand) (t e : TypeId) (z : Value) (bytes : Nat)
    (ho : o.op = .call { callee := .builtin .append, args := #[s, x], argTypes := #[t, t] })
    (ht : P.underlying t = some (.slice e)) (hinfo : (P.info? e).map (fun i => (i.zero, i.size, i.bytes)) = some (some z, d.sz, bytes)) (hz : z.cells.size = d.sz) (hs0 : 0 < d.sz) (hb0 : 0 < bytes)
    (v : Value) (xs : List α) (p : α) (cs : List Value) (ok okp : Nat → Prop) (hs : a.eval s = v) (hx : a.eval x = .slice (some ⟨W.heap.size, 0, none⟩) 1 1) (hp : d.M W base okp p cs) (hokp : ∀ k, okp k → ok k ∧ some k ≠ v.ownBlock) (hfresh : ∀ k, W.heap.size ≤ k → ok k)
    (HO : d.R e W base ok v xs) (HB : Below base w0 W) (hbase : base ≤ W.heap.size) (hl : (xs.length + 1) * bytes ≤ 140737488355328)
    (h : ∀ v1 w1, d.R e w1 base ok v1 (xs ++ [p]) → Below base w0 w1 → W.grownBy w1 v.ownBlock → wpListIn F m P ops Q rest (a.put o.dst v1) w1) :
    wpListIn F m P ops Q (o :: rest) a (W.alloc (.cells cs.toArray e)) := by
  obtain ⟨h0, inner, hown, hr⟩ := HO
  obtain ⟨i0, hi, hzz⟩ := Option.map_eq_some_iff.1 hinfo
  simp only [Prod.mk.injEq] at hzz
  obtain ⟨hz0, hz1, hz2⟩ := hzz
  have hlen : xs.length + 1 ≤ 140737488355328 := Nat.le_trans (Nat.le_mul_of_pos_right _ hb0) hl
  have hys := d.K_len (d.K_of_M hp)
  obtain ⟨v1, w1, hr1, hown1, hg, _, hat⟩ := run_append_own_at (P := P) (w := W.alloc (.cells cs.toArray e)) base t o.type e i0 z d.sz bytes ht hi hz0 hz1 hz2 hz hs0 v xs.length inner (hown.alloc _) ⟨W.heap.size, 0, none⟩ 1 1 cs (by rw [hys]; simp)
    (by simpa using World.news_of_block (cs := cs.toArray) (t := e) (fr := (0, 0)) (heap_alloc_new W (.cells cs.toArray e))) (d.K_one (d.K_of_M hp)) (by simp only [maxLen]; omega) hl (by simp; omega)
  have hg1 : W.grownBy w1 v.ownBlock := World.grownBy.trans (World.grownBy_alloc W _ _) hg
  have hat1 : v1.ownBlock = v.ownBlock ∨ ∃ b, v1.ownBlock = some b ∧ W.heap.size ≤ b := by
    rcases hat with hat | hat
    · exact .inl hat
    · exact .inr ⟨_, hat, by simp⟩
  have hB1 : Below base w0 w1 := (HB.alloc hbase _).grown hg (by simp; omega) (own_base hown)
  refine wpListIn_plain hgd fun K hK => ?_
  unfold Oper.wpIn
  refine ⟨by simp [Oper.about, ho, resolve, Target.leads, Sem.run_pure], ?_⟩
  rw [Oper.semAt_plain F _ _ (by rw [ho]; intro c hc'; cases hc')]
  unfold execOp
  simp only [ho, resolve, invoke, builtin, Sem.run_bind, Sem.run_pure, Result.andThen_ok, List.map_toArray, List.map_cons, List.map_nil, hs, hx, hr1]
  exact hK _ _ (h v1 w1 (Kd.R_appended h0 hr hp hokp hfresh hown1 hg1 hat1) hB1 hg1)
theorem own9_R {β α : Type} {d : Kd α} {e base B : Nat} {ok : Nat → Prop} (v : β → Value) (xs : β → List α) (hE : ∀ q, q ∈ e :: d.E → ¬ Mine q) : Own9 B (fun s W => d.R e W base ok (v s) (xs s)) := fun s W W' row hs hg hr =>
  Kd.R_mono (Kd.R_grown (Kd.R_bound hs) hg (fun k hk e' => by
    obtain ⟨_, _, _, q, hq, cells, hc⟩ := hk
    obtain ⟨_, o, h2, h3⟩ := hr k e'.symm
    rw [hc] at h2
    cases h2
    rcases h3 with h3 | ⟨cs, m, T, h5, h6⟩
    · cases h3
    · cases h5; exact hE _ hq h6)) (fun k hk => hk.1)
def lblK (k : Int) (root : S26) (x : Int × Int) : S83 := ⟨x.1, x.2, if x.2 = 0 then keyI k x.1 0 [] root else descK (nodeK root x.1) ((pathF 9 x.1 x.2).getD [])⟩
theorem ret_sec {fn : Func} {g : Nat} {r p0 q0 : Int} {A : Option Addr} {n c : Nat} {t : TypeId} {tmps : Array Value} {W : World} {p u : Tmp} {v : Value} (h : fn.results = [ResultVar.cell p 76, ResultVar.tmp u].toArray) (hp : tmps.getD p undef = .pointer (some ⟨g, 0, none⟩)) (hu : tmps.getD u undef = v) (hg : W.heap[g]? = some (.cells (sc r A n c p0 q0) t (0, 0))) :
    (results fn tmps).run Try.prog W = .ok (.tuple #[sv r A n c p0 q0, v]) W := by
  subst hu
  exact results_list (rs := [.cell p 76, .tmp u]) h (by simp) (.cell g t (sc r A n c p0 q0) (0, 0) _ hp hg Try.underlying76 rfl (by kernel_rfl) (.tmp .nil))
theorem splice_eq : ∀ (vs : List Value) (o : Nat) (cs : Array Value), o + vs.length ≤ cs.size → splice cs o vs = (cs.toList.take o ++ (vs ++ cs.toList.drop (o + vs.length))).toArray
  | [], o, cs, h => by simp [splice]
  | v :: vs, o, cs, h => by
    have h' : o + 1 + vs.length ≤ (cs.setIfInBounds o v).size := by simp at h ⊢; omega
    rw [splice, splice_eq vs (o + 1) _ h']
    congr 1
    have ho : o < cs.toList.length := by simp at h ⊢; omega
    have e1 : (cs.setIfInBounds o v).toList = cs.toList.set o v := by simp
    rw [e1, List.take_set, List.take_succ_eq_append_getElem ho, List.drop_set_of_lt (by omega), List.set_append]
    simp [show min o cs.size = o by simp at h; omega, show o + 1 + vs.length = o + (vs.length + 1) by omega]
theorem lc_splice (a b : Int) (z K : S26) : splice (lc a b z) 2 (kc K).toList = lc a b K := by
  rw [splice_eq _ _ _ (Nat.le_refl 18)]
  rfl
theorem C_nil' {α : Type} (d : Kd α) (w : World) : Kd.C d w none 0 ([] : List α) := ⟨rfl, by omega, fun h => absurd h (by omega)⟩
end Go.Proofs.Ytafhimeoijmolaa.K
namespace Go.Proofs.Ytafhimeoijmolaa.K
open Go.RowKit Go.Shelf Go.Proofs.Ytafhimeoijmolaa.R9 Go.Proofs.YtafhimeoijmolaaW.PrintWords Go.Proofs.YtafhimeoijmolaaW.PrintLast Go.Proofs.YtafhimeoijmolaaW.PrintMore Go.Proofs.Ytafhimeoijmolaa.G
set_option linter.unusedVariables false
set_option linter.unusedSimpArgs false
attribute [local go_sem] Oper.semAt_some
set_option maxHeartbeats 4000000 in
set_option maxRecDepth 100000 in
theorem Secret_e (root : S26) (a0 a1 a2 a3 a4 a5 u k d s e : Int) (w : World) (h1 : cover_enter.f 70 a0 a1 a2 a3 a4 a5 [] = some (k, d, s, e)) (he : e ≠ 0) :
    Calls Try.prog 41 #[kv root, .agg #[.int .u8 a0, .int .i64 a1, .int .i64 a2, .int .u64 a3, .int .u64 a4, .int .u64 a5], .int .i64 u] w fun e' w' => e' = .returned (.tuple #[sv 0 none 0 0 0 0, .int .i64 e]) ∧ Below w.heap.size w w' := by
  obtain ⟨W0, hW0⟩ : ∃ W0, (((w.alloc (.cells (kc root) 26)).alloc (.cells #[.int .u8 a0, .int .i64 a1, .int .i64 a2, .int .u64 a3, .int .u64 a4, .int .u64 a5] 45)).alloc (.cells (sc 0 none 0 0 0 0) 76)) = W0 := ⟨_, rfl⟩
  have B0 := Aside0.mk (show W0.heap[w.heap.size]? = some (.cells (kc root) 26 (0, 0)) by rw [← hW0]; exact (blk_alloc (blk_alloc (newAt rfl) _) _))
  have B1 := Aside0.mk (show W0.heap[w.heap.size + 1]? = some (.cells #[.int .u8 a0, .int .i64 a1, .int .i64 a2, .int .u64 a3, .int .u64 a4, .int .u64 a5] 45 (0, 0)) by rw [← hW0]; exact (blk_alloc (newAt (by simp)) _))
  have B2 := Aside0.mk (show W0.heap[w.heap.size + 1 + 1]? = some (.cells (sc 0 none 0 0 0 0) 76 (0, 0)) by rw [← hW0]; exact (newAt (by simp)))
  have BB := Aside0.mk (show Below w.heap.size w W0 by rw [← hW0]; exact ((((Below.refl _ w).alloc (Nat.le_refl _) _).alloc (by simp) _).alloc (by simp; omega) _))
  have BBs := Aside0.mk (show w.heap.size + 3 = W0.heap.size by rw [← hW0]; simp)
  have HW := Aside0.mk hW0
  clear hW0
  have H1 := Aside0.mk h1
  have e0 := HW.out
  have b0 : (e != 0) = true := by simp [he]
  clear h1 he
  refine (callsIn_wide (n := 9)).1 ?_
  refine callsIn_of_wp_marks Try.func41 rfl trivial ?_ rfl
  simp only [Try.ntmps41, List.size_toArray, List.length_cons, List.length_nil, Nat.reduceAdd, Nat.reduceSub, Array.replicate_succ, Array.replicate_zero, List.push_toArray, List.append_toArray, List.nil_append, List.cons_append]
  gi_wp2_with (first | ((with_reducible refine ldR_in rfl rfl B1.out ?_ ?_ ?_); rfl; exact row45))
  refine ⟨trivial, (callsIn_wide.2 (cover_enter.calls 70 a0 a1 a2 a3 a4 a5 none 0 [] k d s e _ (C_nil' _ _) (Nat.le_refl _) H1.out)).mono ?_⟩
  rintro e1 w1 ⟨rfl, hb1⟩
  have hb1' : Below W0.heap.size W0 w1 := hb1
  have C2 := Aside0.mk (blk_to B2.out hb1')
  have CB := Aside0.mk (BB.out.trans (hb1'.mono BB.out.size))
  have hcs : w.heap.size + 3 ≤ w1.heap.size := by have := hb1'.size; have := BBs.out; omega
  clear hb1 hb1' e0 B0 B1 B2 BB BBs HW H1
  gi_wp2_with (first | ((with_reducible refine stR_in rfl rfl (blk_alloc C2.out _) (sc 0 none 0 0 0 0) ?_ ?_ ?_ ?_ ?_ ?_); rfl; rfl; exact row76; rfl; rfl; intro W9 P9))
  exact ⟨_, ret_sec rfl rfl rfl P9.at_, rfl, P9.below (CB.out.alloc CB.out.size _) (by omega)⟩
set_option maxHeartbeats 4000000 in
set_option maxRecDepth 100000 in
theorem Secret_r (root : S26) (a0 a1 a2 a3 a4 a5 u k d s : Int) (w : World) (h1 : cover_enter.f 70 a0 a1 a2 a3 a4 a5 [] = some (k, d, s, 0)) (h2 : cover_tree_receiver.f k d s u = some false) :
    Calls Try.prog 41 #[kv root, .agg #[.int .u8 a0, .int .i64 a1, .int .i64 a2, .int .u64 a3, .int .u64 a4, .int .u64 a5], .int .i64 u] w fun e' w' => e' = .returned (.tuple #[sv 0 none 0 0 0 0, .int .i64 2]) ∧ Below w.heap.size w w' := by
  obtain ⟨W0, hW0⟩ : ∃ W0, (((w.alloc (.cells (kc root) 26)).alloc (.cells #[.int .u8 a0, .int .i64 a1, .int .i64 a2, .int .u64 a3, .int .u64 a4, .int .u64 a5] 45)).alloc (.cells (sc 0 none 0 0 0 0) 76)) = W0 := ⟨_, rfl⟩
  have B0 := Aside0.mk (show W0.heap[w.heap.size]? = some (.cells (kc root) 26 (0, 0)) by rw [← hW0]; exact (blk_alloc (blk_alloc (newAt rfl) _) _))
  have B1 := Aside0.mk (show W0.heap[w.heap.size + 1]? = some (.cells #[.int .u8 a0, .int .i64 a1, .int .i64 a2, .int .u64 a3, .int .u64 a4, .int .u64 a5] 45 (0, 0)) by rw [← hW0]; exact (blk_alloc (newAt (by simp)) _))
  have B2 := Aside0.mk (show W0.heap[w.heap.size + 1 + 1]? = some (.cells (sc 0 none 0 0 0 0) 76 (0, 0)) by rw [← hW0]; exact (newAt (by simp)))
  have BB := Aside0.mk (show Below w.heap.size w W0 by rw [← hW0]; exact ((((Below.refl _ w).alloc (Nat.le_refl _) _).alloc (by simp) _).alloc (by simp; omega) _))
  have BBs := Aside0.mk (show w.heap.size + 3 = W0.heap.size by rw [← hW0]; simp)
  have HW := Aside0.mk hW0
  clear hW0
  have H1 := Aside0.mk h1; have H2 := Aside0.mk h2
  have e0 := HW.out
  clear h1 h2
  refine (callsIn_wide (n := 9)).1 ?_
  refine callsIn_of_wp_marks Try.func41 rfl trivial ?_ rfl
  simp only [Try.ntmps41, List.size_toArray, List.length_cons, List.length_nil, Nat.reduceAdd, Nat.reduceSub, Array.replicate_succ, Array.replicate_zero, List.push_toArray, List.append_toArray, List.nil_append, List.cons_append]
  gi_wp2_with (first | ((with_reducible refine ldR_in rfl rfl B1.out ?_ ?_ ?_); rfl; exact row45))
  refine ⟨trivial, (callsIn_wide.2 (cover_enter.calls 70 a0 a1 a2 a3 a4 a5 none 0 [] k d s 0 _ (C_nil' _ _) (Nat.le_refl _) H1.out)).mono ?_⟩
  rintro e1 w1 ⟨rfl, hb1⟩
  have hb1' : Below W0.heap.size W0 w1 := hb1
  have C2 := Aside0.mk (blk_to B2.out hb1')
  have CB := Aside0.mk (BB.out.trans (hb1'.mono BB.out.size))
  have hcs : w.heap.size + 3 ≤ w1.heap.size := by have := hb1'.size; have := BBs.out; omega
  clear hb1 hb1' e0 B0 B1 B2 BB BBs HW H1
  gi_wp2_with fail
  refine ⟨trivial, (callsIn_wide.2 (cover_tree_receiver.calls k d s u false _ H2.out)).mono ?_⟩
  rintro e2 w2 ⟨rfl, hb2⟩
  have D2 := Aside0.mk (blk_to (blk_alloc C2.out _) hb2)
  have DB := Aside0.mk ((CB.out.alloc CB.out.size _).trans (hb2.mono (by have := CB.out.size; simp; omega)))
  clear hb2 C2 CB H2
  gi_wp2_with (first | ((with_reducible refine stR_in rfl rfl D2.out (sc 0 none 0 0 0 0) ?_ ?_ ?_ ?_ ?_ ?_); rfl; rfl; exact row76; rfl; rfl; intro W9 P9))
  exact ⟨_, ret_sec rfl rfl rfl P9.at_, rfl, P9.below DB.out (by omega)⟩
end Go.Proofs.Ytafhimeoijmolaa.K
namespace Go.Proofs.Ytafhimeoijmolaa.K
open Go.RowKit Go.Shelf Go.Proofs.Ytafhimeoijmolaa.R9 Go.Proofs.YtafhimeoijmolaaW.PrintWords Go.Proofs.YtafhimeoijmolaaW.PrintLast Go.Proofs.YtafhimeoijmolaaW.PrintMore Go.Proofs.Ytafhimeoijmolaa.G
set_option linter.unusedVariables false
set_option linter.unusedSimpArgs false
attribute [local go_sem] Oper.semAt_some
theorem keepsOthers_grown {W w1 : World} {v : Value} {α : Type} {d : Kd α} {e base : Nat} {ok : Nat → Prop} {xs : List α} (hR : d.R e W base ok v xs) (hg : W.grownBy w1 v.ownBlock) : KeepsOthers W w1 :=
  ⟨hg.size, fun k o hk ho => (hg.block k (Array.getElem?_eq_some_iff.1 hk).1 (fun e' => by
    obtain ⟨_, _, _, q, _, cells, hc⟩ := (Kd.R_bound hR).1 k e'.symm
    rw [hk] at hc
    cases hc
    cases ho)).trans hk⟩
theorem kp9_grown {W w1 : World} {v : Value} {α : Type} {d : Kd α} {e base : Nat} {ok : Nat → Prop} {xs : List α} (hR : d.R e W base ok v xs) (hE : ∀ q, q ∈ e :: d.E → ¬ Mine q) (hg : W.grownBy w1 v.ownBlock) : Kp9 W w1 :=
  Kp9.grown hg (fun r e' => by
    obtain ⟨_, _, _, q, hq, cells, hc⟩ := (Kd.R_bound hR).1 r e'
    exact ⟨_, hc, fun cs m T e2 => by cases e2; exact hE q hq⟩)
theorem notMine83 : ∀ q, q ∈ 83 :: k83.E → ¬ Mine q := by
  intro q hq
  have : q = 83 := by
    have e : k83.E = [] := rfl
    rw [e] at hq
    simpa using hq
  subst this
  rintro (h | h | h) <;> cases h
set_option maxHeartbeats 4000000 in
set_option maxRecDepth 100000 in
theorem Secret_ok (root : S26) (a0 a1 a2 a3 a4 a5 u k d s : Int) (xs : List (Int × Int)) (w : World) (h1 : cover_enter.f 70 a0 a1 a2 a3 a4 a5 [] = some (k, d, s, 0)) (h2 : cover_tree_receiver.f k d s u = some true) (h3 : labelsF k d s u = some xs) (hl : xs.length ≤ 1000)
    (hp : ∀ x ∈ xs, x.2 ≠ 0 → ∃ ps, pathF 9 x.1 x.2 = some ps) :
    Calls Try.prog 41 #[kv root, .agg #[.int .u8 a0, .int .i64 a1, .int .i64 a2, .int .u64 a3, .int .u64 a4, .int .u64 a5], .int .i64 u] w fun e' w' => ∃ A n c, e' = .returned (.tuple #[sv u A n c 0 0, .int .i64 0]) ∧ Kd.R k83 83 w' w.heap.size (fun _ => True) (.slice A n c) (xs.map (lblK k root)) ∧ Below w.heap.size w w' := by
  obtain ⟨W0, hW0⟩ : ∃ W0, (((w.alloc (.cells (kc root) 26)).alloc (.cells #[.int .u8 a0, .int .i64 a1, .int .i64 a2, .int .u64 a3, .int .u64 a4, .int .u64 a5] 45)).alloc (.cells (sc 0 none 0 0 0 0) 76)) = W0 := ⟨_, rfl⟩
  have B0 := Aside0.mk (show W0.heap[w.heap.size]? = some (.cells (kc root) 26 (0, 0)) by rw [← hW0]; exact (blk_alloc (blk_alloc (newAt rfl) _) _))
  have B1 := Aside0.mk (show W0.heap[w.heap.size + 1]? = some (.cells #[.int .u8 a0, .int .i64 a1, .int .i64 a2, .int .u64 a3, .int .u64 a4, .int .u64 a5] 45 (0, 0)) by rw [← hW0]; exact (blk_alloc (newAt (by simp)) _))
  have B2 := Aside0.mk (show W0.heap[w.heap.size + 1 + 1]? = some (.cells (sc 0 none 0 0 0 0) 76 (0, 0)) by rw [← hW0]; exact (newAt (by simp)))
  have BB := Aside0.mk (show Below w.heap.size w W0 by rw [← hW0]; exact ((((Below.refl _ w).alloc (Nat.le_refl _) _).alloc (by simp) _).alloc (by simp; omega) _))
  have BBs := Aside0.mk (show w.heap.size + 3 = W0.heap.size by rw [← hW0]; simp)
  have HW := Aside0.mk hW0
  clear hW0
  have H1 := Aside0.mk h1; have H2 := Aside0.mk h2; have H3 := Aside0.mk h3; have HL := Aside0.mk hl; have HP := Aside0.mk hp
  have e0 := HW.out
  clear h1 h2 h3 hl hp
  refine (callsIn_wide (n := 9)).1 ?_
  refine callsIn_of_wp_marks Try.func41 rfl trivial ?_ rfl
  simp only [Try.ntmps41, List.size_toArray, List.length_cons, List.length_nil, Nat.reduceAdd, Nat.reduceSub, Array.replicate_succ, Array.replicate_zero, List.push_toArray, List.append_toArray, List.nil_append, List.cons_append]
  gi_wp2_with (first | ((with_reducible refine ldR_in rfl rfl B1.out ?_ ?_ ?_); rfl; exact row45))
  refine ⟨trivial, (callsIn_wide.2 (cover_enter.calls 70 a0 a1 a2 a3 a4 a5 none 0 [] k d s 0 _ (C_nil' _ _) (Nat.le_refl _) H1.out)).mono ?_⟩
  rintro e1 w1 ⟨rfl, hb1⟩
  have hb1' : Below W0.heap.size W0 w1 := hb1
  have C0 := Aside0.mk (blk_to B0.out hb1'); have C2 := Aside0.mk (blk_to B2.out hb1')
  have CB := Aside0.mk (BB.out.trans (hb1'.mono BB.out.size))
  have hcs : w.heap.size + 3 ≤ w1.heap.size := by have := hb1'.size; have := BBs.out; omega
  clear hb1 hb1' e0 B0 B1 B2 BB BBs HW H1
  gi_wp2_with fail
  refine ⟨trivial, (callsIn_wide.2 (cover_tree_receiver.calls k d s u true _ H2.out)).mono ?_⟩
  rintro e2 w2 ⟨rfl, hb2⟩
  have D0 := Aside0.mk (blk_to (blk_alloc C0.out _) hb2); have D2 := Aside0.mk (blk_to (blk_alloc C2.out _) hb2); have D3 := Aside0.mk (blk_to (newAt rfl) hb2)
  have DB := Aside0.mk ((CB.out.alloc CB.out.size _).trans (hb2.mono (by have := CB.out.size; simp; omega)))
  have hds : w1.heap.size < w2.heap.size := by have := hb2.size; simp at this; omega
  clear hb2 C0 C2 CB H2
  have d3 := cat D3.out 0 (.int .u8 k) rfl; have d4 := cat D3.out 1 (.int .i64 d) rfl; have d5 := cat D3.out 2 (.int .i64 s) rfl
  gi_wp2_with fail
  refine ⟨trivial, (callsIn_wide.2 (labels_calls k d s u _)).mono ?_⟩
  rintro e3 w3 ⟨rfl, rfl⟩
  simp only [World.size_alloc]
  obtain ⟨g, hg⟩ : ∃ g, g = w2.heap.size := ⟨_, rfl⟩
  obtain ⟨W1, hW1⟩ : ∃ W1, (((w2.alloc (.cells #[.int .i64 u, .slice none 0 0, .int .u64 0, .int .u64 0] 76)).alloc (.cells #[.int .u8 k, .int .i64 d, .int .i64 s] 134)).alloc (.cells #[.int .i64 u] 3)) = W1 := ⟨_, rfl⟩
  have sW1 : W1.heap.size = g + 3 := by rw [← hW1, hg]; simp
  have EG := Aside0.mk (show W1.heap[g]? = some (.cells (sc u none 0 0 0 0) 76 (0, 0)) by rw [← hW1, hg]; exact blk_alloc (blk_alloc (newAt rfl) _) _)
  have bT : W1.heap[g + 1]? = some (.cells #[.int .u8 k, .int .i64 d, .int .i64 s] 134 (0, 0)) := by rw [← hW1, hg]; exact blk_alloc (newAt (by simp)) _
  have bU : Boxed W1 (g + 1 + 1) 3 (.int .i64 u) := by rw [← hW1, hg]; exact newAt (by simp)
  have E0 := Aside0.mk (show W1.heap[w.heap.size]? = some (.cells (kc root) 26 (0, 0)) by rw [← hW1]; exact blk_alloc (blk_alloc (blk_alloc D0.out _) _) _)
  have E2 := Aside0.mk (show W1.heap[w.heap.size + 1 + 1]? = some (.cells (sc 0 none 0 0 0 0) 76 (0, 0)) by rw [← hW1]; exact blk_alloc (blk_alloc (blk_alloc D2.out _) _) _)
  have E3 := Aside0.mk (show W1.heap[w1.heap.size]? = some (.cells #[.int .u8 k, .int .i64 d, .int .i64 s] 134 (0, 0)) by rw [← hW1]; exact blk_alloc (blk_alloc (blk_alloc D3.out _) _) _)
  have EB := Aside0.mk (show Below w.heap.size w W1 by rw [← hW1]; exact ((DB.out.alloc DB.out.size _).alloc (by have := DB.out.size; simp; omega) _).alloc (by have := DB.out.size; simp; omega) _)
  have hgd : w1.heap.size < g := by rw [hg]; exact hds
  have HG := Aside0.mk hg
  clear hg hds
  gi_wp2
  rw [hW1]
  rw [← HG.out]
  have BT := Aside0.mk bT; have BU := Aside0.mk bU; have SW := Aside0.mk sW1
  clear hW1 D0 D2 D3 DB d3 d4 d5 bT bU sW1
  refine wpIn_range9s (P := Try.prog) (gf := 129) (lb := #[.pointer (some ⟨g + 1, 0, none⟩), .pointer (some ⟨g + 1 + 1, 0, none⟩)]) rfl (enters_of Try.func129 (by kernel_rfl) rfl)
    (labels_seq9 (9 - 1) (by omega) _ _ k d s u xs H3.out _ BT.out BU.out) (Below.refl _ _) (fun _ => rfl)
    (fun pre W => ∃ v, W.heap[g]? = some (.cells #[.int .i64 u, v, .int .u64 0, .int .u64 0] 76 (0, 0)) ∧ Kd.R k83 83 W g (fun j => g < j) v (pre.map (lblK k root)) ∧ (W.heap[w.heap.size]? = some (.cells (kc root) 26 (0, 0)) ∧ W.heap[w.heap.size + 1 + 1]? = some (.cells (sc 0 none 0 0 0 0) 76 (0, 0)) ∧ W.heap[w1.heap.size]? = some (.cells #[.int .u8 k, .int .i64 d, .int .i64 s] 134 (0, 0))) ∧ Below w.heap.size w W) (fun _ _ _ => False) ?hI (fun _ _ _ _ _ hs _ _ => hs) ⟨_, EG.out, Kd.R_nil _ _ _ _ _, ⟨E0.out, E2.out, E3.out⟩, EB.out⟩ ?round ?done ?stop
  case hI =>
    rintro pre X Y row ⟨v, h1, h2, ⟨h3, h4, h5⟩, h6⟩ hg' hr
    have far : ∀ {j : Nat} {o : Obj}, X.heap[j]? = some o → j < g + 3 → Y.heap[j]? = some o := fun hj hlt => (hg'.block _ (Array.getElem?_eq_some_iff.1 hj).1 (fun e => by have := (hr _ e.symm).1; have := SW.out; omega)).trans hj
    exact ⟨v, far h1 (by omega), own9_R (β := Unit) (fun _ => v) (fun _ => pre.map (lblK k root)) notMine83 () X Y row h2 hg' hr, ⟨far h3 (by omega), far h4 (by omega), far h5 (by omega)⟩, own9_below (β := Unit) (Nat.le_refl _) (by have := SW.out; omega) () X Y row h6 hg' hr⟩
  case round =>
    intro l pre x W hpx
    have hxl : x ∈ xs := hpx.subset (by simp)
    have hpl : pre.length < 1000 := by have h1 := hpx.length_le; have h2 := HL.out; simp at h1; omega
    simp only [enc2]
    gi_wp2
    refine ⟨trivial, ?_⟩
    rintro W2 ⟨v, f1, f2, ⟨f3, f4, f5⟩, f6⟩
    have HPX := Aside0.mk (HP.out x hxl)
    have G1 := Aside0.mk f1; have G2 := Aside0.mk f2; have G3 := Aside0.mk f3; have G4 := Aside0.mk f4; have G5 := Aside0.mk f5; have G6 := Aside0.mk f6
    have hgW : g < W2.heap.size := (Array.getElem?_eq_some_iff.1 f1).1
    obtain ⟨L, hL⟩ : ∃ L, L = lblK k root x := ⟨_, rfl⟩
    have HLb := Aside0.mk hL
    have HPL := Aside0.mk hpl
    clear f1 f2 f3 f4 f5 f6 hxl hpx hL hpl
    by_cases hx0 : x.2 = 0
    · have HX0 := Aside0.mk hx0
      have b0 : (x.2 == 0) = true := beq_iff_eq.mpr hx0
      clear hx0
      gi_wp2_with (first
        | (((with_reducible refine stR_in rfl rfl (newAt rfl) (lc x.1 x.2 z26) ?_ ?_ ?_ ?_ ?_ ?_); rfl; rfl; exact row83; rfl; rfl; intro W3 P1); have A1 := Aside0.mk P1.at_; have A3 := Aside0.mk (P1.blk (blk_alloc G3.out _) (by omega)); have A5 := Aside0.mk (P1.blk (blk_alloc G5.out _) (by omega)); have AB := Aside0.mk (show Below W2.heap.size W2 W3 from P1.below ((Below.refl _ _).alloc (Nat.le_refl _) _) (Nat.le_refl _)); clear P1; have a0 := cat A1.out 0 (.int .i64 x.1) rfl)
        | ((with_reducible refine ldR_in rfl rfl A5.out ?_ ?_ ?_); rfl; exact row134)
        | ((with_reducible refine ldR_in rfl rfl A3.out ?_ ?_ ?_); rfl; exact row26))
      refine ⟨trivial, (CallsIn.inRound l (callsIn_wide.2 (ckey_calls k d s x.1 0 root [] 9 (fun _ h => absurd rfl h) W3))).mono ?_⟩
      rintro e4 w4 ⟨rfl, hb4⟩
      obtain ⟨K, hK⟩ : ∃ K, K = keyI k x.1 0 [] root := ⟨_, rfl⟩
      rw [← hK]
      have HK := Aside0.mk (show L = ⟨x.1, x.2, K⟩ by rw [HLb.out, hK]; unfold lblK; rw [if_pos HX0.out])
      have HB4 := Aside0.mk (AB.out.trans (hb4.mono AB.out.size))
      have C1 := Aside0.mk (blk_to A1.out hb4)
      clear hK hb4 a0
      have CG := Aside0.mk (blk_to G1.out HB4.out)
      have hgw4 : W2.heap.size < w4.heap.size := (Array.getElem?_eq_some_iff.1 C1.out).1
      gi_wp2_with (first
        | (((with_reducible refine stM_in rfl rfl C1.out 2 (kc K) ?_ ?_ ?_ ?_ ?_ ?_); rfl; rfl; exact row26; (first | exact Nat.le_refl _ | simp); rfl; intro W6 P2); have D1 := Aside0.mk (show W6.heap[W2.heap.size]? = some (.cells (lc x.1 x.2 K) 83 (0, 0)) by rw [← lc_splice x.1 x.2 z26 K]; exact P2.at_); have DG := Aside0.mk (P2.blk CG.out (by omega)); have DB := Aside0.mk (show Below W2.heap.size W2 W6 from P2.below HB4.out (Nat.le_refl _)); have hd6 : W2.heap.size < W6.heap.size := (by have := P2.size; omega); have d0 := cat DG.out 1 v rfl; have DR := Aside0.mk (Kd.R_below G2.out DB.out); have hl6 : (pre.map (lblK k root)).length < 1000 := (by rw [List.length_map]; exact HPL.out); clear P2 CG HB4 C1)
        | ((with_reducible refine ldR_in rfl rfl D1.out ?_ ?_ ?_); rfl; exact row83)
        | (refine R_append_in k83 (w0 := W6) g rfl _ _ 72 83 (.agg (lc 0 0 z26)) 32 rfl Try.underlying72 info83 rfl (by decide) (by decide) v (pre.map (lblK k root)) ⟨x.1, x.2, K⟩ (lc x.1 x.2 K).toList (fun j => g < j) (fun _ => False) rfl rfl (k83_mkM _ _ _ ⟨x.1, x.2, K⟩) (fun _ h => h.elim) (fun j hj => by omega) DR.out (Below.refl _ _) (by omega) (by omega) ?_; intro v1 w7 hR7 hB7 hg7; obtain ⟨A7, n7, m7, e7⟩ : ∃ A n m, v1 = .slice A n m := (by obtain ⟨A, m, h⟩ := Kd.R_slice hR7; exact ⟨A, _, m, h⟩); subst e7; have R7 := Aside0.mk hR7; have B7 := Aside0.mk hB7; have G7 := Aside0.mk hg7; have GH := Aside0.mk ((hg7.block g (by omega) (Kd.R_ne DR.out DG.out (by decide))).trans DG.out); clear hR7 hB7 hg7 d0; have d0 := cat GH.out 1 v rfl; have fr0 := blk_frozen GH.out 1))
      have hk3 := ((keepsOthers_below DB.out).trans (keepsOthers_grown DR.out G7.out))
      refine ⟨(hk3.trans (KeepsOthers.setCell _ ⟨g, 1, none⟩ _)).from _, ((Kp9.of_below DB.out).trans (kp9_grown DR.out notMine83 G7.out)).trans (Kp9.set (m := (0, 0)) GH.out (by intro h; rcases h with h | h | h <;> cases h) _), _, blk_put GH.out 1 _ rfl, ?_, ⟨?_, ?_, ?_⟩, ?_⟩
      · rw [List.map_append, List.map_singleton, ← HLb.out, HK.out]
        exact Kd.R_far R7.out (p := ⟨g, 1, none⟩) (fun j hj => by show j ≠ g; omega) _
      · exact ((Below.heap_setCell _ ⟨g, 1, none⟩ _ _ (by show w.heap.size ≠ g; omega)).trans (B7.out.block _ (by omega))).trans (blk_to G3.out DB.out)
      · exact ((Below.heap_setCell _ ⟨g, 1, none⟩ _ _ (by show w.heap.size + 1 + 1 ≠ g; omega)).trans (B7.out.block _ (by omega))).trans (blk_to G4.out DB.out)
      · exact ((Below.heap_setCell _ ⟨g, 1, none⟩ _ _ (by show w1.heap.size ≠ g; omega)).trans (B7.out.block _ (by omega))).trans (blk_to G5.out DB.out)
      · exact ((G6.out.trans (DB.out.mono G6.out.size)).trans (B7.out.mono (by omega))).setCell (p := ⟨g, 1, none⟩) (by show w.heap.size ≤ g; omega) _
    · have HX0 := Aside0.mk hx0
      have b0 : (x.2 == 0) = false := beq_eq_false_iff_ne.mpr hx0
      obtain ⟨ps, hps⟩ := HPX.out hx0
      have HPS := Aside0.mk hps
      clear hx0 hps
      gi_wp2_with (first
        | (((with_reducible refine stR_in rfl rfl (newAt rfl) (lc x.1 x.2 z26) ?_ ?_ ?_ ?_ ?_ ?_); rfl; rfl; exact row83; rfl; rfl; intro W3 P1); have A1 := Aside0.mk P1.at_; have A3 := Aside0.mk (P1.blk (blk_alloc G3.out _) (by omega)); have A5 := Aside0.mk (P1.blk (blk_alloc G5.out _) (by omega)); have AB := Aside0.mk (show Below W2.heap.size W2 W3 from P1.below ((Below.refl _ _).alloc (Nat.le_refl _) _) (Nat.le_refl _)); clear P1)
        | ((with_reducible refine ldR_in rfl rfl A5.out ?_ ?_ ?_); rfl; exact row134)
        | ((with_reducible refine ldR_in rfl rfl A3.out ?_ ?_ ?_); rfl; exact row26))
      refine ⟨trivial, (CallsIn.inRound l (callsIn_wide.2 (nodeKey_calls root x.1 W3))).mono ?_⟩
      rintro e4 w4 ⟨rfl, hb4⟩
      obtain ⟨K0, hK0⟩ : ∃ K0, K0 = nodeK root x.1 := ⟨_, rfl⟩
      rw [← hK0]
      have HK0 := Aside0.mk hK0
      have HB40 := Aside0.mk (AB.out.trans (hb4.mono AB.out.size))
      have C10 := Aside0.mk (blk_to A1.out hb4)
      clear hK0 hb4
      gi_wp2_with fail
      refine ⟨trivial, (CallsIn.inRound l (callsIn_wide.2 (descend_calls K0 x.1 x.2 ps 9 HPS.out w4))).mono ?_⟩
      rintro e5 w5 ⟨rfl, hb5⟩
      obtain ⟨K, hK⟩ : ∃ K, K = descK K0 ps := ⟨_, rfl⟩
      rw [← hK]
      have HK := Aside0.mk (show L = ⟨x.1, x.2, K⟩ by rw [HLb.out, hK, HK0.out]; unfold lblK; rw [if_neg HX0.out, HPS.out]; rfl)
      have HB4 := Aside0.mk (HB40.out.trans (hb5.mono HB40.out.size))
      have C1 := Aside0.mk (blk_to C10.out hb5)
      clear hK hb5
      have CG := Aside0.mk (blk_to G1.out HB4.out)
      have hgw4 : W2.heap.size < w5.heap.size := (Array.getElem?_eq_some_iff.1 C1.out).1
      gi_wp2_with (first
        | (((with_reducible refine stM_in rfl rfl C1.out 2 (kc K) ?_ ?_ ?_ ?_ ?_ ?_); rfl; rfl; exact row26; (first | exact Nat.le_refl _ | simp); rfl; intro W6 P2); have D1 := Aside0.mk (show W6.heap[W2.heap.size]? = some (.cells (lc x.1 x.2 K) 83 (0, 0)) by rw [← lc_splice x.1 x.2 z26 K]; exact P2.at_); have DG := Aside0.mk (P2.blk CG.out (by omega)); have DB := Aside0.mk (show Below W2.heap.size W2 W6 from P2.below HB4.out (Nat.le_refl _)); have hd6 : W2.heap.size < W6.heap.size := (by have := P2.size; omega); have d0 := cat DG.out 1 v rfl; have DR := Aside0.mk (Kd.R_below G2.out DB.out); have hl6 : (pre.map (lblK k root)).length < 1000 := (by rw [List.length_map]; exact HPL.out); clear P2 CG HB4 C1)
        | ((with_reducible refine ldR_in rfl rfl D1.out ?_ ?_ ?_); rfl; exact row83)
        | (refine R_append_in k83 (w0 := W6) g rfl _ _ 72 83 (.agg (lc 0 0 z26)) 32 rfl Try.underlying72 info83 rfl (by decide) (by decide) v (pre.map (lblK k root)) ⟨x.1, x.2, K⟩ (lc x.1 x.2 K).toList (fun j => g < j) (fun _ => False) rfl rfl (k83_mkM _ _ _ ⟨x.1, x.2, K⟩) (fun _ h => h.elim) (fun j hj => by omega) DR.out (Below.refl _ _) (by omega) (by omega) ?_; intro v1 w7 hR7 hB7 hg7; obtain ⟨A7, n7, m7, e7⟩ : ∃ A n m, v1 = .slice A n m := (by obtain ⟨A, m, h⟩ := Kd.R_slice hR7; exact ⟨A, _, m, h⟩); subst e7; have R7 := Aside0.mk hR7; have B7 := Aside0.mk hB7; have G7 := Aside0.mk hg7; have GH := Aside0.mk ((hg7.block g (by omega) (Kd.R_ne DR.out DG.out (by decide))).trans DG.out); clear hR7 hB7 hg7 d0; have d0 := cat GH.out 1 v rfl; have fr0 := blk_frozen GH.out 1))
      have hk3 := ((keepsOthers_below DB.out).trans (keepsOthers_grown DR.out G7.out))
      refine ⟨(hk3.trans (KeepsOthers.setCell _ ⟨g, 1, none⟩ _)).from _, ((Kp9.of_below DB.out).trans (kp9_grown DR.out notMine83 G7.out)).trans (Kp9.set (m := (0, 0)) GH.out (by intro h; rcases h with h | h | h <;> cases h) _), _, blk_put GH.out 1 _ rfl, ?_, ⟨?_, ?_, ?_⟩, ?_⟩
      · rw [List.map_append, List.map_singleton, ← HLb.out, HK.out]
        exact Kd.R_far R7.out (p := ⟨g, 1, none⟩) (fun j hj => by show j ≠ g; omega) _
      · exact ((Below.heap_setCell _ ⟨g, 1, none⟩ _ _ (by show w.heap.size ≠ g; omega)).trans (B7.out.block _ (by omega))).trans (blk_to G3.out DB.out)
      · exact ((Below.heap_setCell _ ⟨g, 1, none⟩ _ _ (by show w.heap.size + 1 + 1 ≠ g; omega)).trans (B7.out.block _ (by omega))).trans (blk_to G4.out DB.out)
      · exact ((Below.heap_setCell _ ⟨g, 1, none⟩ _ _ (by show w1.heap.size ≠ g; omega)).trans (B7.out.block _ (by omega))).trans (blk_to G5.out DB.out)
      · exact ((G6.out.trans (DB.out.mono G6.out.size)).trans (B7.out.mono (by omega))).setCell (p := ⟨g, 1, none⟩) (by show w.heap.size ≤ g; omega) _
  case done =>
    rintro D W hD ⟨v, f1, f2, ⟨f3, f4, f5⟩, f6⟩ hK
    obtain ⟨A, n, c, rfl⟩ : ∃ A n m, v = .slice A n m := by obtain ⟨A, m, h⟩ := Kd.R_slice f2; exact ⟨A, _, m, h⟩
    have F1 := Aside0.mk f1; have F2 := Aside0.mk f2; have F4 := Aside0.mk f4; have F6 := Aside0.mk f6; have FK := Aside0.mk hK; have FD := Aside0.mk hD
    clear f1 f2 f3 f4 f5 f6 hK hD
    gi_wp2_with (first
      | ((with_reducible refine ldR_in rfl rfl F1.out ?_ ?_ ?_); rfl; exact row76)
      | ((with_reducible refine stR_in rfl rfl F4.out (sc u A n c 0 0) ?_ ?_ ?_ ?_ ?_ ?_); rfl; rfl; exact row76; rfl; rfl; intro W9 P9))
    have hD9 : W9.heap[D]? = some (.deferred (some [])) := P9.blk FK.out (by have := FD.out; have := SW.out; omega)
    refine ⟨by simp, .inl ⟨_, _, rfl, run_takeDeferred hD9, ?_⟩⟩
    refine ⟨_, ret_sec rfl rfl rfl ((World.putObj_heap_other (by have := FD.out; have := SW.out; omega)).trans P9.at_), A, n, c, rfl, ?_, ?_⟩
    · have h1 := Kd.R_step (w1 := W9.putObj D (.deferred none)) (Kd.R_bound F2.out) (fun j hj _ => by
        have hne : j ≠ D := by
          intro e; subst e
          obtain ⟨_, _, _, q, _, cells, hc⟩ := hj
          rw [FK.out] at hc; cases hc
        exact (World.putObj_heap_other hne).trans (P9.oth j (by have := hj.1; omega)))
      exact Kd.R_mono (Kd.R_lower h1 (by omega)) (fun _ _ => trivial)
    · exact (P9.below F6.out (by omega)).trans (belowK_b (w := w) (Nat.le_refl _) W9 D _ _ (by have := FD.out; have := SW.out; omega) hD9 rfl rfl)
  case stop =>
    rintro D c pre W _ _ h _
    exact h.elim
end Go.Proofs.Ytafhimeoijmolaa.K
namespace Go.Proofs.Ytafhimeoijmolaa.K
open Go.RowKit  Go.Proofs.YtafhimeoijmolaaW.PrintWords Go.Proofs.YtafhimeoijmolaaW.PrintLast Go.Proofs.YtafhimeoijmolaaW.PrintMore Go.Proofs.Ytafhimeoijmolaa.G
set_option linter.unusedVariables false
set_option linter.unusedSimpArgs false
attribute [local go_sem high] eqA26 eqA83 eqA74
set_option maxHeartbeats 4000000 in
set_option maxRecDepth 100000 in
theorem SameSecret_same (u p q : Int) (A1 A2 : Option Addr) (cp1 cp2 : Nat) (xs : List S83) (w : World) (hC1 : Kd.C k83 w A1 xs.length xs) (hC2 : Kd.C k83 w A2 xs.length xs) :
    Calls Try.prog 43 #[sv u A1 xs.length cp1 p q, sv u A2 xs.length cp2 p q] w fun e' w' => e' = .returned (.bool true) ∧ Below w.heap.size w w' := by
  obtain ⟨W0, hW0⟩ : ∃ W0, ((w.alloc (.cells (sc u A1 xs.length cp1 p q) 76)).alloc (.cells (sc u A2 xs.length cp2 p q) 76)) = W0 := ⟨_, rfl⟩
  have B0 := Aside0.mk (show W0.heap[w.heap.size]? = some (.cells (sc u A1 xs.length cp1 p q) 76 (0, 0)) by rw [← hW0]; exact (blk_alloc (newAt rfl) _))
  have B1 := Aside0.mk (show W0.heap[w.heap.size + 1]? = some (.cells (sc u A2 xs.length cp2 p q) 76 (0, 0)) by rw [← hW0]; exact (newAt (by simp)))
  have BB := Aside0.mk (show Below w.heap.size w W0 by rw [← hW0]; exact (((Below.refl _ w).alloc (Nat.le_refl _) _).alloc (by simp) _))
  have BBs := Aside0.mk (show w.heap.size + 2 = W0.heap.size by rw [← hW0]; simp)
  have HW := Aside0.mk hW0
  clear hW0
  have hl1 : xs.length ≤ 9223372036854775807 := hC1.2.1
  have HC1 := Aside0.mk (Kd.C_below hC1 BB.out); have HC2 := Aside0.mk (Kd.C_below hC2 BB.out)
  clear hC1 hC2
  go_enter Try.func43, Try.ntmps43
  go_upto_region 1 with (fail)
  show Code.wp _ _ _ _ ((w.alloc (.cells (sc u A1 xs.length cp1 p q) 76)).alloc (.cells (sc u A2 xs.length cp2 p q) 76))
  rw [HW.out]
  have c0 := cat B0.out 0 (.int .i64 u) rfl; have c1 := cat B0.out 1 (.slice A1 xs.length cp1) rfl; have c2 := cat B0.out 2 (.int .u64 p) rfl; have c3 := cat B0.out 3 (.int .u64 q) rfl
  have d0 := cat B1.out 0 (.int .i64 u) rfl; have d1 := cat B1.out 1 (.slice A2 xs.length cp2) rfl; have d2 := cat B1.out 2 (.int .u64 p) rfl; have d3 := cat B1.out 3 (.int .u64 q) rfl
  go_wp2_with fail
  clear c0 c1 c2 c3 d0 d1 d2 d3
  go_loopg [5] xs.length (fun kq vv w' => ∃ (i : Nat), vv = .int .i64 (i : Int) ∧ Aside0 (i + kq = xs.length) ∧ Aside0 (Below W0.heap.size W0 w'))
  case atStart => exact ⟨0, rfl, ⟨by omega⟩, ⟨Below.refl _ _⟩⟩
  case round =>
    obtain ⟨i, rfl, HI, HB⟩ := hrel
    have D0 := Aside0.mk (blk_to B0.out HB.out); have D1 := Aside0.mk (blk_to B1.out HB.out)
    have E1 := Aside0.mk (Kd.C_below HC1.out HB.out); have E2 := Aside0.mk (Kd.C_below HC2.out HB.out)
    have d0 := cat D0.out 1 (.slice A1 xs.length cp1) rfl
    have d1 := cat D1.out 1 (.slice A2 xs.length cp2) rfl
    by_cases hi : i < xs.length
    · have HI' := Aside0.mk hi
      obtain ⟨x, hx⟩ : ∃ x, x = xs.getD i z83 := ⟨_, rfl⟩
      have HX := Aside0.mk hx
      obtain ⟨ad1, cc, rfl, -⟩ := Kd.C_get E1.out z83 (i : Int) (by omega) (by omega)
      obtain ⟨ad2, cc2, rfl, -⟩ := Kd.C_get E2.out z83 (i : Int) (by omega) (by omega)
      have b2 : (i : Int) < (xs.length : Int) := by omega
      clear hx hi
      go_wp2_with fail
      refine beginB none 99 11 rfl (by repeat (first | exact nf_body | refine nf_then ?_ | refine nf_block ?_)) (fun NF S0 => ?_)
      refine takeY 0 34 (.pointer (some ⟨w.heap.size, 1, none⟩)) rfl (by kernel_rfl) (by kernel_rfl) (by kernel_rfl) (by kernel_rfl) rfl rfl NF S0 (fun w' hw' => by go_simp) ?_; (try simp only [Act.put, List.setIfInBounds_toArray, List.set_cons_zero, List.set_cons_succ])
      refine takeY 1 35 (.slice (some ad1) xs.length cp1) rfl (by kernel_rfl) (by kernel_rfl) (by kernel_rfl) (by kernel_rfl) rfl rfl NF S0 (fun w' hw' => by have c := cat (hw'.at_ D0.out (by simp)) 1 _ rfl; go_simp) ?_; (try simp only [Act.put, List.setIfInBounds_toArray, List.set_cons_zero, List.set_cons_succ])
      refine takeY 2 36 (.int .i64 i) rfl (by kernel_rfl) (by kernel_rfl) (by kernel_rfl) (by kernel_rfl) rfl rfl NF S0 (fun w' hw' => by go_simp) ?_; (try simp only [Act.put, List.setIfInBounds_toArray, List.set_cons_zero, List.set_cons_succ])
      refine takeY 3 37 (.pointer (some (ad1.add (i * 18)))) rfl (by kernel_rfl) (by kernel_rfl) (by kernel_rfl) (by kernel_rfl) rfl rfl NF S0 (fun w' hw' => by go_simp) ?_; (try simp only [Act.put, List.setIfInBounds_toArray, List.set_cons_zero, List.set_cons_succ])
      refine takeC 4 38 rfl (by kernel_rfl) (by kernel_rfl) (by kernel_rfl) (by kernel_rfl) rfl rfl rfl E1.out (by simp) (fun _ _ _ h => h) i z83 (lc x.f0 x.f1 x.f2).toList 18 HI'.out (fun _ c h => by rw [← HX.out] at h; exact k83_cs c h) NF S0 rfl row83 rfl ?_; (try simp only [Act.put, List.setIfInBounds_toArray, List.set_cons_zero, List.set_cons_succ])
      refine takeY 5 39 (.pointer (some ⟨w.heap.size + 1, 1, none⟩)) rfl (by kernel_rfl) (by kernel_rfl) (by kernel_rfl) (by kernel_rfl) rfl rfl NF S0 (fun w' hw' => by go_simp) ?_; (try simp only [Act.put, List.setIfInBounds_toArray, List.set_cons_zero, List.set_cons_succ])
      refine takeY 6 40 (.slice (some ad2) xs.length cp2) rfl (by kernel_rfl) (by kernel_rfl) (by kernel_rfl) (by kernel_rfl) rfl rfl NF S0 (fun w' hw' => by have c := cat (hw'.at_ D1.out (by simp)) 1 _ rfl; go_simp) ?_; (try simp only [Act.put, List.setIfInBounds_toArray, List.set_cons_zero, List.set_cons_succ])
      refine takeY 7 41 (.int .i64 i) rfl (by kernel_rfl) (by kernel_rfl) (by kernel_rfl) (by kernel_rfl) rfl rfl NF S0 (fun w' hw' => by go_simp) ?_; (try simp only [Act.put, List.setIfInBounds_toArray, List.set_cons_zero, List.set_cons_succ])
      refine takeY 8 42 (.pointer (some (ad2.add (i * 18)))) rfl (by kernel_rfl) (by kernel_rfl) (by kernel_rfl) (by kernel_rfl) rfl rfl NF S0 (fun w' hw' => by go_simp) ?_; (try simp only [Act.put, List.setIfInBounds_toArray, List.set_cons_zero, List.set_cons_succ])
      refine takeC 9 43 rfl (by kernel_rfl) (by kernel_rfl) (by kernel_rfl) (by kernel_rfl) rfl rfl rfl E2.out (by simp) (fun _ _ _ h => h) i z83 (lc x.f0 x.f1 x.f2).toList 18 HI'.out (fun _ c h => by rw [← HX.out] at h; exact k83_cs c h) NF S0 rfl row83 rfl ?_; (try simp only [Act.put, List.setIfInBounds_toArray, List.set_cons_zero, List.set_cons_succ])
      refine takeY 10 44 (.bool false) rfl (by kernel_rfl) (by kernel_rfl) (by kernel_rfl) (by kernel_rfl) rfl rfl NF S0 (fun w' hw' => by go_simp) ?_; (try simp only [Act.put, List.setIfInBounds_toArray, List.set_cons_zero, List.set_cons_succ])
      refine doneM (by kernel_rfl) ?_ _
      clear S0 NF
      go_wp2
      obtain ⟨gq, rfl⟩ : ∃ gq, gk = gq + 1 := ⟨gk - 1, by have := HI'.out; have := HI.out; omega⟩
      go_roundg gq
      case measure => omega
      case rel => exact ⟨i + 1, by simp, ⟨by have := HI.out; omega⟩, ⟨HB.out.drew⟩⟩
    · have hi2 : i = xs.length := by have := HI.out; omega
      subst hi2
      have b2 : ¬ ((xs.length : Int) < (xs.length : Int)) := by omega
      clear HI hi
      go_wp2
      go_ret
      exact ⟨rfl, BB.out.trans (HB.out.mono BB.out.size)⟩
end Go.Proofs.Ytafhimeoijmolaa.K
