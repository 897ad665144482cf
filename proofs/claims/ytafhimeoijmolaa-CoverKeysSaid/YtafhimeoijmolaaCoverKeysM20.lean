/- Texts of this claim, one behind the other, as far as they are used: KI, KO, KU, M2, M7, M13, M16, KW, P5, N7, P6, P7, M9. -/
import Derived.Test.YtafhimeoijmolaaCoverKeysM3
import Derived.Test.YtafhimeoijmolaaCoverKeysM4
import Derived.Test.YtafhimeoijmolaaCoverKeysM5
import Derived.Test.YtafhimeoijmolaaCoverKeysM6
import Derived.Test.YtafhimeoijmolaaCoverKeysM7
import Derived.Test.YtafhimeoijmolaaCoverKeysM8
import Derived.Test.YtafhimeoijmolaaCoverKeysM9
import Derived.Test.YtafhimeoijmolaaCoverKeysM13
import Derived.Test.YtafhimeoijmolaaCoverKeysM16
import Derived.Test.YtafhimeoijmolaaCoverKeysM17
import Derived.Test.YtafhimeoijmolaaCoverKeysM18
import Derived.Test.YtafhimeoijmolaaCoverKeysM19
namespace Go.Proofs.Ytafhimeoijmolaa.K
open Go.RowKit  Go.Proofs.YtafhimeoijmolaaW.PrintWords Go.Proofs.YtafhimeoijmolaaW.PrintLast Go.Proofs.YtafhimeoijmolaaW.PrintMore Go.Proofs.Ytafhimeoijmolaa.G
set_option linter.unusedVariables false
set_option linter.unusedSimpArgs false
def stepK (k : S26) (x : Int) : S26 := derK k (if Int.tmod x 2 = 1 then 32 else 31) 0
theorem stepK_ok (k : S26) (x : Int) : KOK (stepK k x) := derK_ok _ _ _
theorem wok0 : WOK 0 := by unfold WOK; omega
set_option maxHeartbeats 4000000 in
set_option maxRecDepth 100000 in
theorem step_calls (k : S26) (hk : KOK k) (x : Int) (hx : 0 ≤ x) (w : World) :
    Calls Try.prog 169 #[kv k, .int .i64 x] w fun e w' => e = .returned (kv (stepK k x)) ∧ Below w.heap.size w w' := by
  obtain ⟨W0, hW0⟩ : ∃ W0, ((w.alloc (.cells (kc k) 26)).alloc (.cells (kc z26) 26)) = W0 := ⟨_, rfl⟩
  have B0 := Aside0.mk (show W0.heap[w.heap.size]? = some (.cells (kc k) 26 (0, 0)) by rw [← hW0]; exact (blk_alloc (newAt rfl) _))
  have B1 := Aside0.mk (show W0.heap[w.heap.size + 1]? = some (.cells (kc z26) 26 (0, 0)) by rw [← hW0]; exact (newAt (by simp)))
  have BB := Aside0.mk (show Below w.heap.size w W0 by rw [← hW0]; exact (((Below.refl _ w).alloc (Nat.le_refl _) _).alloc (by simp) _))
  have BBs := Aside0.mk (show w.heap.size + 2 = W0.heap.size by rw [← hW0]; simp)
  have HW := Aside0.mk hW0
  clear hW0
  have HK := Aside0.mk hk
  have HX := Aside0.mk hx
  obtain ⟨R, hR⟩ : ∃ R, R = stepK k x := ⟨_, rfl⟩
  rw [← hR]
  have HR := Aside0.mk hR
  clear hk hR
  by_cases h0 : Int.tmod x 2 = 0
  · have b0 : (Int.tmod x 2 == 0) = true := beq_iff_eq.mpr h0
    have b1 : (x % 2 == 0) = true := by rw [Int.tmod_eq_emod_of_nonneg hx] at h0; exact beq_iff_eq.mpr h0
    have E1 := Aside0.mk (show R = derK k 31 0 by rw [HR.out]; unfold stepK; rw [if_neg (by omega)])
    clear h0 HR
    go_enter Try.func169, Try.ntmps169
    go_wp2_with fail
    go_at_call 89
    refine (rDerive_calls k 31 0 HK.out (by omega) wok0 _).mono ?_
    have e0 := HW.out
    rintro e1 w1 ⟨rfl, hb1⟩
    have hb1' : Below W0.heap.size W0 w1 := by rw [← e0]; exact hb1
    have C1 := Aside0.mk (blk_to B1.out hb1')
    have CB := Aside0.mk (BB.out.trans (hb1'.mono BB.out.size))
    obtain ⟨K, hK⟩ : ∃ K, K = derK k 31 0 := ⟨_, rfl⟩
    rw [← hK]
    have HK1 := Aside0.mk hK
    clear hb1 hb1' e0 hK
    go_wp2_with (first | ((with_reducible refine stR rfl rfl C1.out (kc K) ?_ ?_ ?_ ?_ ?_ ?_); rfl; rfl; exact row26; rfl; rfl; intro W2 P1))
    refine bodyPost_ret (results_cell_row rfl _ _ _ 26 _ (0, 0) _ rfl P1.at_ Try.underlying26 rfl (by kernel_rfl)) rfl ?_
    exact ⟨by rw [E1.out, HK1.out], P1.below CB.out (by omega)⟩
  · have b0 : (Int.tmod x 2 == 0) = false := beq_eq_false_iff_ne.mpr h0
    have b1 : (x % 2 == 0) = false := by rw [Int.tmod_eq_emod_of_nonneg hx] at h0; exact beq_eq_false_iff_ne.mpr h0
    have E1 := Aside0.mk (show R = derK k 32 0 by rw [HR.out]; unfold stepK; rw [if_pos (by rw [Int.tmod_eq_emod_of_nonneg hx] at *; omega)])
    clear h0 HR
    go_enter Try.func169, Try.ntmps169
    go_wp2_with fail
    go_at_call 89
    refine (rDerive_calls k 32 0 HK.out (by omega) wok0 _).mono ?_
    have e0 := HW.out
    rintro e1 w1 ⟨rfl, hb1⟩
    have hb1' : Below W0.heap.size W0 w1 := by rw [← e0]; exact hb1
    have C1 := Aside0.mk (blk_to B1.out hb1')
    have CB := Aside0.mk (BB.out.trans (hb1'.mono BB.out.size))
    obtain ⟨K, hK⟩ : ∃ K, K = derK k 32 0 := ⟨_, rfl⟩
    rw [← hK]
    have HK1 := Aside0.mk hK
    clear hb1 hb1' e0 hK
    go_wp2_with (first | ((with_reducible refine stR rfl rfl C1.out (kc K) ?_ ?_ ?_ ?_ ?_ ?_); rfl; rfl; exact row26; rfl; rfl; intro W2 P1))
    refine bodyPost_ret (results_cell_row rfl _ _ _ 26 _ (0, 0) _ rfl P1.at_ Try.underlying26 rfl (by kernel_rfl)) rfl ?_
    exact ⟨by rw [E1.out, HK1.out], P1.below CB.out (by omega)⟩
theorem descK_step (k : S26) (xs : List Int) (x : Int) : descK k (xs ++ [x]) = stepK (descK k xs) x := by unfold descK stepK; rw [List.foldl_append]; rfl
set_option maxHeartbeats 4000000 in
set_option maxRecDepth 100000 in
theorem down_calls (k : S26) (hk : KOK k) (f t : Int) (p : List Int) (hpos : ∀ x ∈ p, 0 ≤ x) (h1 : 1 ≤ p.length) (kk : Nat) (hp : headendref03_Path.f kk f t = some p) (w : World) :
    Calls Try.prog 148 #[kv k, .int .i64 f, .int .i64 t] w fun e w' => e = .returned (kv (descK k (p.drop 1))) ∧ Below w.heap.size w w' := by
  obtain ⟨W0, hW0⟩ : ∃ W0, ((w.alloc (.cells (kc k) 26)).alloc (.cells (kc z26) 26)) = W0 := ⟨_, rfl⟩
  have B0 := Aside0.mk (show W0.heap[w.heap.size]? = some (.cells (kc k) 26 (0, 0)) by rw [← hW0]; exact (blk_alloc (newAt rfl) _))
  have B1 := Aside0.mk (show W0.heap[w.heap.size + 1]? = some (.cells (kc z26) 26 (0, 0)) by rw [← hW0]; exact (newAt (by simp)))
  have BB := Aside0.mk (show Below w.heap.size w W0 by rw [← hW0]; exact (((Below.refl _ w).alloc (Nat.le_refl _) _).alloc (by simp) _))
  have BBs := Aside0.mk (show w.heap.size + 2 = W0.heap.size by rw [← hW0]; simp)
  have HW := Aside0.mk hW0
  clear hW0
  have HK := Aside0.mk hk; have HP := Aside0.mk hpos
  have e0 := HW.out
  obtain ⟨R, hR⟩ : ∃ R, R = descK k (p.drop 1) := ⟨_, rfl⟩
  rw [← hR]
  have HR := Aside0.mk hR
  clear hR
  go_enter Try.func148, Try.ntmps148
  go_wp2_with fail
  go_at_call 114
  refine (headendref03_Path.calls kk f t p _ hp).mono ?_
  rintro e1 w1 ⟨v1, rfl, hr1, hb1⟩
  have hb1' : Below W0.heap.size W0 w1 := by rw [← e0]; exact hb1
  have hr1' : Kd.R (Kd.int .i64) 3 w1 W0.heap.size (fun _ => True) v1 p := by rw [← e0]; exact hr1
  have C0 := Aside0.mk (blk_to B0.out hb1'); have C1 := Aside0.mk (blk_to B1.out hb1')
  have CB := Aside0.mk (BB.out.trans (hb1'.mono BB.out.size))
  have CR := Aside0.mk hr1'
  obtain ⟨A, c, rfl, hlc, hC⟩ := Kd.R_reads hr1'
  have hlen : p.length ≤ 9223372036854775807 := hC.2.1
  have HW0 := BBs.out
  clear hb1 hb1' hr1 hr1' e0 hpos hk hp hlc hC B0 B1 BB BBs HW
  go_wp2
  go_loopg [8] p.length (fun kq v8 w' => ∃ (i : Nat), v8 = .int .i64 (i : Int) ∧ Aside0 ((1 ≤ i ∧ i ≤ p.length) ∧ i + kq = p.length + 1) ∧ Aside0 (w'.heap[w.heap.size]? = some (.cells (kc (descK k ((p.take i).drop 1))) 26 (0, 0))) ∧ Aside0 (KOK (descK k ((p.take i).drop 1))) ∧ Aside0 (w'.heap[w.heap.size + 1]? = some (.cells (kc z26) 26 (0, 0))) ∧ Aside0 (Kd.R (Kd.int .i64) 3 w' W0.heap.size (fun _ => True) (.slice A p.length c) p) ∧ Aside0 (Below w.heap.size w w'))
  case atStart =>
    refine ⟨1, rfl, ⟨⟨Nat.le_refl _, h1⟩, by omega⟩, ?_, ?_, C1, CR, CB⟩
    · match p, h1 with
      | a :: l, _ => exact C0
    · match p, h1 with
      | a :: l, _ => exact HK
  case round =>
    obtain ⟨i, rfl, HI, D0, DK, D1, DR, DB⟩ := hrel
    obtain ⟨K, hK⟩ : ∃ K, K = descK k ((p.take i).drop 1) := ⟨_, rfl⟩
    rw [← hK] at D0 DK
    have HKK := Aside0.mk hK
    clear hK
    by_cases hi : i < p.length
    · have HI' := Aside0.mk hi
      obtain ⟨x, hx⟩ : ∃ x, x = p.getD i 0 := ⟨_, rfl⟩
      have HX := Aside0.mk hx
      obtain ⟨_, _, hC⟩ := Kd.R_reads' DR.out
      obtain ⟨ad, rfl, hc⟩ := at_ints hC i (by omega)
      rw [← hx] at hc
      have HC := Aside0.mk hC
      have b2 : (i : Int) < (p.length : Int) := by omega
      have hx0 : 0 ≤ x := by rw [hx]; exact HP.out _ (by simp [hi])
      have hcs : ∀ w', SO wr none w' → w'.cell? (ad.add i) = some (.int .i64 x) := fun w' hw' => by
        have hb := World.block_lt_of_cell? wr _ hc
        have := hw'.blk _ hb (by simp)
        rw [← hc]; unfold World.cell?; rw [this]
      have HCS := Aside0.mk hcs
      have HX0 := Aside0.mk hx0
      clear hx hi hC hcs hx0
      go_wp2_with fail
      refine beginB none 6 7 rfl (by repeat (first | exact nf_body | refine nf_then ?_ | refine nf_block ?_)) (fun NF S0 => ?_)
      refine takeR 0 18 rfl (by kernel_rfl) (by kernel_rfl) (by kernel_rfl) (by kernel_rfl) rfl rfl rfl D0.out (by simp) NF S0 rfl row26 ?_; (try simp only [Act.put, List.setIfInBounds_toArray, List.set_cons_zero, List.set_cons_succ])
      refine takeY 1 19 (.slice (some ad) p.length c) rfl (by kernel_rfl) (by kernel_rfl) (by kernel_rfl) (by kernel_rfl) rfl rfl NF S0 (fun w' hw' => by go_simp) ?_; (try simp only [Act.put, List.setIfInBounds_toArray, List.set_cons_zero, List.set_cons_succ])
      refine takeY 2 20 (.int .i64 i) rfl (by kernel_rfl) (by kernel_rfl) (by kernel_rfl) (by kernel_rfl) rfl rfl NF S0 (fun w' hw' => by go_simp) ?_; (try simp only [Act.put, List.setIfInBounds_toArray, List.set_cons_zero, List.set_cons_succ])
      refine takeY 3 21 (.pointer (some (ad.add i))) rfl (by kernel_rfl) (by kernel_rfl) (by kernel_rfl) (by kernel_rfl) rfl rfl NF S0 (fun w' hw' => by go_simp) ?_; (try simp only [Act.put, List.setIfInBounds_toArray, List.set_cons_zero, List.set_cons_succ])
      refine takeY 4 22 (.int .i64 x) rfl (by kernel_rfl) (by kernel_rfl) (by kernel_rfl) (by kernel_rfl) rfl rfl NF S0 (fun w' hw' => by have c := HCS.out w' hw'; go_simp) ?_; (try simp only [Act.put, List.setIfInBounds_toArray, List.set_cons_zero, List.set_cons_succ])
      refine nextM 5 (by kernel_rfl) rfl (fun K5 hK5 => ?_)
      go_simp
      go_at_call 169
      refine (step_calls K DK.out x HX0.out _).mono ?_
      obtain ⟨K2, hK2⟩ : ∃ K2, K2 = stepK K x := ⟨_, rfl⟩
      rw [← hK2]
      have HK2 := Aside0.mk hK2
      clear hK2
      rintro e2 w2 ⟨rfl, hb2⟩
      have S2 := S0.below hb2
      refine hK5.out _ _ (fun _ => S2) ?_
      (try simp only [Act.put, List.setIfInBounds_toArray, List.set_cons_zero, List.set_cons_succ])
      refine nextM 6 (by kernel_rfl) rfl (fun K6 hK6 => ?_)
      rw [if_pos (by rfl)]
      have F0 := Aside0.mk (blk_to (blk_drew D0.out) hb2)
      refine wp_stR (ty := 26) rfl F0.out (kc K2) rfl rfl row26 rfl rfl (fun W2 P1 => ?_)
      refine hK6.out _ _ (fun h => Bool.noConfusion (h : false = true)) ?_
      refine doneM (by kernel_rfl) ?_ _
      have F1 := Aside0.mk (P1.blk (blk_to (blk_drew D1.out) hb2) (by omega))
      have FB := Aside0.mk (P1.below ((DB.out.drew).trans (hb2.mono DB.out.size)) (Nat.le_refl _))
      have FR := Aside0.mk (Kd.R_step (w1 := W2) (Kd.R_bound (Kd.R_below (Kd.R_below DR.out ((Below.refl _ _).drew)) hb2)) (fun j hj _ => P1.oth j (by have := hj.2.1; omega)))
      have FA := Aside0.mk P1.at_
      clear S0 S2 NF hb2 P1
      go_wp2
      obtain ⟨gq, rfl⟩ : ∃ gq, gk = gq + 1 := ⟨gk - 1, by have := HI'.out; have := HI.out; omega⟩
      go_roundg gq
      case measure => omega
      case rel =>
        have e : (p.take (i + 1)).drop 1 = (p.take i).drop 1 ++ [x] := by
          have h1 := HI.out.1.1; have h2 := HI'.out
          rw [List.take_succ_eq_append_getElem h2, List.drop_append_of_le_length (by rw [List.length_take]; omega), HX.out]
          simp [h2]
        refine ⟨i + 1, by simp, ⟨⟨by omega, HI'.out⟩, by have := HI.out; omega⟩, ?_, ?_, F1, ⟨Kd.R_mono FR.out (fun _ _ => trivial)⟩, FB⟩
        · rw [e, descK_step, ← HKK.out, ← HK2.out]; exact FA
        · rw [e, descK_step]; exact ⟨stepK_ok _ _⟩
    · have hi2 : i = p.length := by have := HI.out; omega
      subst hi2
      have b2 : ¬ ((p.length : Int) < (p.length : Int)) := by omega
      go_wp2_with (first
        | ((with_reducible refine ldR rfl rfl D0.out ?_ ?_ ?_); rfl; exact row26)
        | ((with_reducible refine stR rfl rfl D1.out (kc K) ?_ ?_ ?_ ?_ ?_ ?_); rfl; rfl; exact row26; rfl; rfl; intro W4 P1))
      refine bodyPost_ret (results_cell_row rfl _ _ _ 26 _ (0, 0) _ rfl P1.at_ Try.underlying26 rfl (by kernel_rfl)) rfl ?_
      refine ⟨?_, P1.below DB.out (by omega)⟩
      have e : R = K := by rw [HR.out, HKK.out, List.take_length]
      rw [e]
end Go.Proofs.Ytafhimeoijmolaa.K
namespace Go.Proofs.Ytafhimeoijmolaa.K
open Go.RowKit  Go.Proofs.YtafhimeoijmolaaW.PrintWords Go.Proofs.YtafhimeoijmolaaW.PrintLast Go.Proofs.YtafhimeoijmolaaW.PrintMore Go.Proofs.Ytafhimeoijmolaa.G
set_option linter.unusedVariables false
set_option linter.unusedSimpArgs false
theorem wok_wrap (v : Int) : WOK (IntKind.u64.wrap v) := by unfold WOK; simp [IntKind.wrap, IntKind.bits, IntKind.signed]; omega
structure PathR (v t : Int) (xs : List Int) : Prop where
  mk :: (out : ∃ kk p, headendref03_Path.f kk v t = some p ∧ p.drop 1 = xs ∧ (∀ x ∈ p, 0 ≤ x) ∧ 1 ≤ p.length)
set_option maxHeartbeats 4000000 in
set_option maxRecDepth 100000 in
theorem label_calls (root : S26) (hk : KOK root) (v t : Int) (xs : List Int) (hp : PathR v t xs) (w : World) :
    Calls Try.prog 142 #[kv root, .int .i64 v, .int .i64 t] w fun e w' => e = .returned (kv (descK (nodeK root v) xs)) ∧ Below w.heap.size w w' := by
  obtain ⟨W0, hW0⟩ : ∃ W0, ((w.alloc (.cells (kc root) 26)).alloc (.cells (kc z26) 26)) = W0 := ⟨_, rfl⟩
  have B0 := Aside0.mk (show W0.heap[w.heap.size]? = some (.cells (kc root) 26 (0, 0)) by rw [← hW0]; exact (blk_alloc (newAt rfl) _))
  have B1 := Aside0.mk (show W0.heap[w.heap.size + 1]? = some (.cells (kc z26) 26 (0, 0)) by rw [← hW0]; exact (newAt (by simp)))
  have BB := Aside0.mk (show Below w.heap.size w W0 by rw [← hW0]; exact (((Below.refl _ w).alloc (Nat.le_refl _) _).alloc (by simp) _))
  have BBs := Aside0.mk (show w.heap.size + 2 = W0.heap.size by rw [← hW0]; simp)
  have HW := Aside0.mk hW0
  clear hW0
  have HK := Aside0.mk hk
  have HP := Aside0.mk hp
  obtain ⟨R, hR⟩ : ∃ R, R = descK (nodeK root v) xs := ⟨_, rfl⟩
  rw [← hR]
  have HR := Aside0.mk hR
  have e0 := HW.out
  clear hk hR hp
  go_enter Try.func142, Try.ntmps142
  go_wp2_with fail
  go_at_call 89
  refine (rDerive_calls root 30 _ HK.out (by omega) (wok_wrap v) _).mono ?_
  rintro e1 w1 ⟨rfl, hb1⟩
  have hb1' : Below W0.heap.size W0 w1 := by rw [← e0]; exact hb1
  have C1 := Aside0.mk (blk_to B1.out hb1')
  have CB := Aside0.mk (BB.out.trans (hb1'.mono BB.out.size))
  obtain ⟨K, hK⟩ : ∃ K, K = derK root 30 (IntKind.u64.wrap v) := ⟨_, rfl⟩
  rw [← hK]
  have HK1 := Aside0.mk hK
  have HKO := Aside0.mk (show KOK K by rw [hK]; exact derK_ok _ _ _)
  clear hb1 hb1' e0 hK
  obtain ⟨kk, p, h1, h2, h3, h4⟩ := HP.out
  have HPP := Aside0.mk (And.intro h1 (And.intro h2 (And.intro h3 h4)))
  clear h1 h2 h3 h4 HP
  go_wp2_with fail
  go_at_call 148
  refine (down_calls K HKO.out v t p HPP.out.2.2.1 HPP.out.2.2.2 kk HPP.out.1 _).mono ?_
  rw [HPP.out.2.1]
  rintro e2 w2 ⟨rfl, hb2⟩
  have C2 := Aside0.mk (blk_to C1.out hb2)
  have CB2 := Aside0.mk (CB.out.trans (hb2.mono CB.out.size))
  obtain ⟨K2, hK⟩ : ∃ K2, K2 = descK K xs := ⟨_, rfl⟩
  rw [← hK]
  have HK2 := Aside0.mk hK
  clear hb2 hK
  go_wp2_with (first | ((with_reducible refine stR rfl rfl C2.out (kc K2) ?_ ?_ ?_ ?_ ?_ ?_); rfl; rfl; exact row26; rfl; rfl; intro W2 P1))
  refine bodyPost_ret (results_cell_row rfl _ _ _ 26 _ (0, 0) _ rfl P1.at_ Try.underlying26 rfl (by kernel_rfl)) rfl ?_
  exact ⟨by rw [HR.out, HK2.out, HK1.out]; rfl, P1.below CB2.out (by omega)⟩
set_option maxHeartbeats 4000000 in
set_option maxRecDepth 100000 in
theorem KeyOf_calls (root : S26) (hk : KOK root) (a0 a1 a2 a3 a4 a5 v t : Int) (xs : List Int) (hp : a0 ≠ 1 → t ≠ 0 → PathR v t xs) (w : World) :
    Calls Try.prog 91 #[kv root, .agg #[.int .u8 a0, .int .i64 a1, .int .i64 a2, .int .u64 a3, .int .u64 a4, .int .u64 a5], .agg #[.int .i64 v, .int .i64 t]] w fun e w' => e = .returned (kv (keyI a0 v t xs root)) ∧ Below w.heap.size w w' := by
  obtain ⟨W0, hW0⟩ : ∃ W0, ((((w.alloc (.cells (kc root) 26)).alloc (.cells #[.int .u8 a0, .int .i64 a1, .int .i64 a2, .int .u64 a3, .int .u64 a4, .int .u64 a5] 45)).alloc (.cells #[.int .i64 v, .int .i64 t] 47)).alloc (.cells (kc z26) 26)) = W0 := ⟨_, rfl⟩
  have B0 := Aside0.mk (show W0.heap[w.heap.size]? = some (.cells (kc root) 26 (0, 0)) by rw [← hW0]; exact (blk_alloc (blk_alloc (blk_alloc (newAt rfl) _) _) _))
  have B1 := Aside0.mk (show W0.heap[w.heap.size + 1]? = some (.cells #[.int .u8 a0, .int .i64 a1, .int .i64 a2, .int .u64 a3, .int .u64 a4, .int .u64 a5] 45 (0, 0)) by rw [← hW0]; exact (blk_alloc (blk_alloc (newAt (by simp)) _) _))
  have B2 := Aside0.mk (show W0.heap[w.heap.size + 1 + 1]? = some (.cells #[.int .i64 v, .int .i64 t] 47 (0, 0)) by rw [← hW0]; exact (blk_alloc (newAt (by simp)) _))
  have B3 := Aside0.mk (show W0.heap[w.heap.size + 1 + 1 + 1]? = some (.cells (kc z26) 26 (0, 0)) by rw [← hW0]; exact (newAt (by simp)))
  have BB := Aside0.mk (show Below w.heap.size w W0 by rw [← hW0]; exact (((((Below.refl _ w).alloc (Nat.le_refl _) _).alloc (by simp) _).alloc (by simp; omega) _).alloc (by simp; omega) _))
  have BBs := Aside0.mk (show w.heap.size + 4 = W0.heap.size by rw [← hW0]; simp)
  have HW := Aside0.mk hW0
  clear hW0
  have HK := Aside0.mk hk
  have HP := Aside0.mk hp
  obtain ⟨R, hR⟩ : ∃ R, R = keyI a0 v t xs root := ⟨_, rfl⟩
  rw [← hR]
  have HR := Aside0.mk hR
  have e0 := HW.out
  clear hk hR hp
  by_cases h1 : a0 = 1
  · have E1 := Aside0.mk (show R = nodeK root v from HR.out.trans (if_pos h1))
    have b1 : (a0 == 1) = true := beq_iff_eq.mpr h1
    clear h1
    go_enter Try.func91, Try.ntmps91
    go_wp2_with fail
    go_at_call 89
    refine (rDerive_calls root 30 _ HK.out (by omega) (wok_wrap v) _).mono ?_
    rintro e1 w1 ⟨rfl, hb1⟩
    have hb1' : Below W0.heap.size W0 w1 := by rw [← e0]; exact hb1
    have C3 := Aside0.mk (blk_to B3.out hb1')
    have CB := Aside0.mk (BB.out.trans (hb1'.mono BB.out.size))
    obtain ⟨K, hK⟩ : ∃ K, K = derK root 30 (IntKind.u64.wrap v) := ⟨_, rfl⟩
    rw [← hK]
    have HK1 := Aside0.mk hK
    clear hb1 hb1' e0 hK
    go_wp2_with (first | ((with_reducible refine stR rfl rfl C3.out (kc K) ?_ ?_ ?_ ?_ ?_ ?_); rfl; rfl; exact row26; rfl; rfl; intro W2 P1))
    refine bodyPost_ret (results_cell_row rfl _ _ _ 26 _ (0, 0) _ rfl P1.at_ Try.underlying26 rfl (by kernel_rfl)) rfl ?_
    exact ⟨by rw [E1.out, HK1.out]; rfl, P1.below CB.out (by omega)⟩
  · have b1 : (a0 == 1) = false := beq_eq_false_iff_ne.mpr h1
    by_cases h2 : t = 0
    · have E1 := Aside0.mk (show R = derK root 34 0 by rw [HR.out]; unfold keyI; rw [if_neg h1, if_pos h2])
      have b2 : (t == 0) = true := beq_iff_eq.mpr h2
      clear h1 h2
      go_enter Try.func91, Try.ntmps91
      go_wp2_with fail
      go_at_call 89
      refine (rDerive_calls root 34 0 HK.out (by omega) wok0 _).mono ?_
      rintro e1 w1 ⟨rfl, hb1⟩
      have hb1' : Below W0.heap.size W0 w1 := by rw [← e0]; exact hb1
      have C3 := Aside0.mk (blk_to B3.out hb1')
      have CB := Aside0.mk (BB.out.trans (hb1'.mono BB.out.size))
      obtain ⟨K, hK⟩ : ∃ K, K = derK root 34 0 := ⟨_, rfl⟩
      rw [← hK]
      have HK1 := Aside0.mk hK
      clear hb1 hb1' e0 hK
      go_wp2_with (first | ((with_reducible refine stR rfl rfl C3.out (kc K) ?_ ?_ ?_ ?_ ?_ ?_); rfl; rfl; exact row26; rfl; rfl; intro W2 P1))
      refine bodyPost_ret (results_cell_row rfl _ _ _ 26 _ (0, 0) _ rfl P1.at_ Try.underlying26 rfl (by kernel_rfl)) rfl ?_
      exact ⟨by rw [E1.out, HK1.out], P1.below CB.out (by omega)⟩
    · have E1 := Aside0.mk (show R = derK (descK (nodeK root v) xs) 33 0 by rw [HR.out]; unfold keyI; rw [if_neg h1, if_neg h2])
      have b2 : (t == 0) = false := beq_eq_false_iff_ne.mpr h2
      have HP2 := Aside0.mk (HP.out h1 h2)
      clear h1 h2 HP
      go_enter Try.func91, Try.ntmps91
      go_wp2_with fail
      go_at_call 142
      refine (label_calls root HK.out v t xs HP2.out _).mono ?_
      rintro e1 w1 ⟨rfl, hb1⟩
      have hb1' : Below W0.heap.size W0 w1 := by rw [← e0]; exact hb1
      have C3 := Aside0.mk (blk_to B3.out hb1')
      have CB := Aside0.mk (BB.out.trans (hb1'.mono BB.out.size))
      obtain ⟨K, hK⟩ : ∃ K, K = descK (nodeK root v) xs := ⟨_, rfl⟩
      have HKO := Aside0.mk (show KOK K by
        rw [hK]; unfold descK
        have : ∀ (l : List Int) (q : S26), KOK q → KOK (l.foldl (fun k x => derK k (if Int.tmod x 2 = 1 then 32 else 31) 0) q) := by
          intro l
          induction l with
          | nil => exact fun q h => h
          | cons a l ih => exact fun q _ => ih _ (derK_ok _ _ _)
        exact this _ _ (derK_ok _ _ _))
      rw [← hK]
      have HK1 := Aside0.mk hK
      clear hb1 hb1' e0 hK
      go_wp2_with fail
      go_at_call 89
      refine (rDerive_calls K 33 0 HKO.out (by omega) wok0 _).mono ?_
      rintro e2 w2 ⟨rfl, hb2⟩
      have C4 := Aside0.mk (blk_to C3.out hb2)
      have CB2 := Aside0.mk (CB.out.trans (hb2.mono CB.out.size))
      obtain ⟨K2, hK⟩ : ∃ K2, K2 = derK K 33 0 := ⟨_, rfl⟩
      rw [← hK]
      have HK2 := Aside0.mk hK
      clear hb2 hK
      go_wp2_with (first | ((with_reducible refine stR rfl rfl C4.out (kc K2) ?_ ?_ ?_ ?_ ?_ ?_); rfl; rfl; exact row26; rfl; rfl; intro W2 P1))
      refine bodyPost_ret (results_cell_row rfl _ _ _ 26 _ (0, 0) _ rfl P1.at_ Try.underlying26 rfl (by kernel_rfl)) rfl ?_
      exact ⟨by rw [E1.out, HK2.out, HK1.out], P1.below CB2.out (by omega)⟩
end Go.Proofs.Ytafhimeoijmolaa.K
namespace Go.Proofs.Ytafhimeoijmolaa.K
open Go.RowKit  Go.Proofs.YtafhimeoijmolaaW.PrintWords Go.Proofs.YtafhimeoijmolaaW.PrintLast Go.Proofs.YtafhimeoijmolaaW.PrintMore Go.Proofs.Ytafhimeoijmolaa.G
set_option linter.unusedVariables false
set_option linter.unusedSimpArgs false
theorem descK_ok {k : S26} (hk : KOK k) (xs : List Int) : KOK (descK k xs) := by
  unfold descK
  have : ∀ (l : List Int) (q : S26), KOK q → KOK (l.foldl (fun k x => derK k (if Int.tmod x 2 = 1 then 32 else 31) 0) q) := by
    intro l
    induction l with
    | nil => exact fun q h => h
    | cons a l ih => exact fun q _ => ih _ (derK_ok _ _ _)
  exact this _ _ hk
theorem getD_mem {α : Type} (l : List α) (i : Nat) (h : i < l.length) (z : α) : l.getD i z ∈ l := by simp [h]
end Go.Proofs.Ytafhimeoijmolaa.K
namespace Go.Proofs.Ytafhimeoijmolaa.K
open Go.RowKit  Go.Proofs.YtafhimeoijmolaaW.PrintWords Go.Proofs.YtafhimeoijmolaaW.PrintLast Go.Proofs.YtafhimeoijmolaaW.PrintMore Go.Proofs.Ytafhimeoijmolaa.G
set_option linter.unusedVariables false
set_option linter.unusedSimpArgs false
structure LabOK (a0 a1 a2 a3 a4 a5 v t : Int) (ls : List S83) : Prop where
  lead : ∀ l ∈ ls, ∃ b, leadsF a0 l.f0 l.f1 v t = some b ∧ headendref03_leads.f 100 a0 a1 a2 a3 a4 a5 l.f0 l.f1 v t = some b ∧ (b = true → a0 ≠ 1 → t ≠ 0 → PathR l.f1 t ((pathF 9 l.f1 t).getD []))
  key : ∀ l ∈ ls, KOK l.f2
set_option maxHeartbeats 4000000 in
set_option maxRecDepth 100000 in
theorem rLeads_calls (a0 a1 a2 a3 a4 a5 rcv p q : Int) (A : Option Addr) (cap : Nat) (ls : List S83) (v t : Int) (r : S26 × Bool) (w : World) (hC : Kd.C k83 w A ls.length ls) (hl : LabOK a0 a1 a2 a3 a4 a5 v t ls) (h : findF a0 v t ls = some r) :
    Calls Try.prog 110 #[.agg #[.int .u8 a0, .int .i64 a1, .int .i64 a2, .int .u64 a3, .int .u64 a4, .int .u64 a5], sv rcv A ls.length cap p q, .agg #[.int .i64 v, .int .i64 t]] w fun e w' => e = .returned (.tuple #[kv r.1, .bool r.2]) ∧ Below w.heap.size w w' := by
  obtain ⟨W0, hW0⟩ : ∃ W0, ((((w.alloc (.cells #[.int .u8 a0, .int .i64 a1, .int .i64 a2, .int .u64 a3, .int .u64 a4, .int .u64 a5] 45)).alloc (.cells (sc rcv A ls.length cap p q) 76)).alloc (.cells #[.int .i64 v, .int .i64 t] 47)).alloc (.cells (kc z26) 26)) = W0 := ⟨_, rfl⟩
  have B0 := Aside0.mk (show W0.heap[w.heap.size]? = some (.cells #[.int .u8 a0, .int .i64 a1, .int .i64 a2, .int .u64 a3, .int .u64 a4, .int .u64 a5] 45 (0, 0)) by rw [← hW0]; exact (blk_alloc (blk_alloc (blk_alloc (newAt rfl) _) _) _))
  have B1 := Aside0.mk (show W0.heap[w.heap.size + 1]? = some (.cells (sc rcv A ls.length cap p q) 76 (0, 0)) by rw [← hW0]; exact (blk_alloc (blk_alloc (newAt (by simp)) _) _))
  have B2 := Aside0.mk (show W0.heap[w.heap.size + 1 + 1]? = some (.cells #[.int .i64 v, .int .i64 t] 47 (0, 0)) by rw [← hW0]; exact (blk_alloc (newAt (by simp)) _))
  have B3 := Aside0.mk (show W0.heap[w.heap.size + 1 + 1 + 1]? = some (.cells (kc z26) 26 (0, 0)) by rw [← hW0]; exact (newAt (by simp)))
  have BB := Aside0.mk (show Below w.heap.size w W0 by rw [← hW0]; exact (((((Below.refl _ w).alloc (Nat.le_refl _) _).alloc (by simp) _).alloc (by simp; omega) _).alloc (by simp; omega) _))
  have BBs := Aside0.mk (show w.heap.size + 4 = W0.heap.size by rw [← hW0]; simp)
  have HW := Aside0.mk hW0
  clear hW0
  have hlen : ls.length ≤ 9223372036854775807 := hC.2.1
  have H0 := Aside0.mk h
  have HLO := Aside0.mk hl
  have HC := Aside0.mk (show Kd.C k83 W0 A ls.length ls by rw [← HW.out]; exact Kd.C_below hC (((((Below.refl _ w).alloc (Nat.le_refl _) _).alloc (by simp) _).alloc (by simp; omega) _).alloc (by simp; omega) _))
  have HL := Aside0.mk hlen
  clear hC h hl
  go_enter Try.func110, Try.ntmps110
  go_wp2
  show Code.wp _ _ _ _ ((((w.alloc (.cells #[.int .u8 a0, .int .i64 a1, .int .i64 a2, .int .u64 a3, .int .u64 a4, .int .u64 a5] 45)).alloc (.cells (sc rcv A ls.length cap p q) 76)).alloc (.cells #[.int .i64 v, .int .i64 t] 47)).alloc (.cells (kc z26) 26))
  rw [HW.out]
  go_loopg [8] ls.length (fun kq v8 w' => ∃ i : Nat, v8 = .int .i64 (i : Int) ∧ Aside0 (i + kq = ls.length) ∧ Aside0 (findF a0 v t (ls.drop i) = some r) ∧ Aside0 (Below W0.heap.size W0 w'))
  case atStart => exact ⟨0, rfl, ⟨by omega⟩, ⟨H0.out⟩, ⟨Below.refl _ _⟩⟩
  case round =>
    obtain ⟨i, rfl, HI, HF, HB⟩ := hrel
    have C0 := Aside0.mk (blk_to B0.out HB.out); have C1 := Aside0.mk (blk_to B1.out HB.out); have C2 := Aside0.mk (blk_to B2.out HB.out); have C3 := Aside0.mk (blk_to B3.out HB.out)
    have CB := Aside0.mk (BB.out.trans (HB.out.mono BB.out.size))
    have CC := Aside0.mk (Kd.C_below HC.out HB.out)
    have CS := Aside0.mk (show w.heap.size + 4 ≤ wr.heap.size by have := HB.out.size; have := BBs.out; omega)
    have HB0 := HB
    have d1 := cat C1.out 1 (.slice A ls.length cap) rfl
    clear HB B0 B1 B2 B3 BB BBs HW H0 HC hlen
    by_cases hi : i < ls.length
    · have HI' := Aside0.mk hi
      obtain ⟨l, hl⟩ : ∃ l, l = ls.getD i z83 := ⟨_, rfl⟩
      have hlm : l ∈ ls := by rw [hl]; exact getD_mem ls i hi z83
      have HLl := Aside0.mk hl
      have hf := HF.out
      rw [drop_cons ls i hi z83, ← hl] at hf
      simp only [findF] at hf
      obtain ⟨q1, hq1, hf⟩ := Option.bind_eq_some_iff.mp hf
      obtain ⟨b, hb1, hb2, hb3⟩ := HLO.out.lead l hlm
      have ebq : b = q1 := Option.some.inj (hb1.symm.trans hq1)
      subst ebq
      have HQ := Aside0.mk hb2
      have HPA := Aside0.mk hb3
      have HKO := Aside0.mk (HLO.out.key l hlm)
      have HF2 := Aside0.mk hf
      obtain ⟨ad, cc, rfl, -⟩ := Kd.C_get CC.out z83 (i : Int) (by omega) (by omega)
      have b1 : (i : Int) < (ls.length : Int) := by omega
      have b2 : (ls.length : Int) ≤ 9223372036854775807 := by have := HL.out; omega
      clear hl hf hq1 hi HF hb1 hb2 hb3 hlm
      have hcs : w.heap.size + 4 ≤ wr.heap.size := CS.out
      go_wp2_with (first
        | ((with_reducible refine ldC rfl rfl CC.out i z83 (lc l.f0 l.f1 l.f2).toList 18 ?_ ?_ ?_ ?_ ?_ ?_); rfl; exact HI'.out; (rw [← HLl.out]; exact k83_cs); exact row83; rfl)
        | (((with_reducible refine stR rfl rfl (newAt rfl) (lc l.f0 l.f1 l.f2) ?_ ?_ ?_ ?_ ?_ ?_); rfl; rfl; exact row83; rfl; rfl; intro W2 P1); have D0 := Aside0.mk (P1.blk (blk_alloc C0.out _) (by omega)); have D2 := Aside0.mk (P1.blk (blk_alloc C2.out _) (by omega)); have D3 := Aside0.mk (P1.blk (blk_alloc C3.out _) (by omega)); have D1 := Aside0.mk P1.at_; have DB := Aside0.mk (P1.below (CB.out.alloc CB.out.size _) (by omega)); have DW := Aside0.mk (show Below wr.heap.size wr W2 from P1.below ((Below.refl _ wr).alloc (Nat.le_refl _) _) (Nat.le_refl _)); clear P1; have x0 := cat D1.out 0 (.int .i64 l.f0) rfl; have x1 := cat D1.out 1 (.int .i64 l.f1) rfl)
        | ((with_reducible refine ldR rfl rfl D0.out ?_ ?_ ?_); rfl; exact row45)
        | ((with_reducible refine ldR rfl rfl D2.out ?_ ?_ ?_); rfl; exact row47))
      go_at_call 147
      refine (headendref03_leads.calls 100 a0 a1 a2 a3 a4 a5 l.f0 l.f1 v t b _ HQ.out).mono ?_
      rintro e1 w1 ⟨rfl, hb1⟩
      have E0 := Aside0.mk (blk_to D0.out hb1)
      have E1 := Aside0.mk (blk_to D1.out hb1)
      have E2 := Aside0.mk (blk_to D2.out hb1)
      have E3 := Aside0.mk (blk_to D3.out hb1)
      have EB := Aside0.mk (DB.out.trans (hb1.mono DB.out.size))
      have EW := Aside0.mk (DW.out.trans (hb1.mono DW.out.size))
      clear hb1 x0 x1
      cases b
      · have hf := HF2.out
        simp only [Bool.false_eq_true, if_false] at hf
        have HF3 := Aside0.mk hf
        clear hf
        go_wp2
        obtain ⟨gq, rfl⟩ : ∃ gq, gk = gq + 1 := ⟨gk - 1, by have := HI'.out; have := HI.out; omega⟩
        go_roundg gq
        case measure => omega
        case rel => exact ⟨i + 1, by simp, ⟨by have := HI.out; omega⟩, ⟨HF3.out⟩, ⟨HB0.out.trans (EW.out.mono HB0.out.size)⟩⟩
      · have hf := HF2.out
        simp only [if_true] at hf
        have x0 := cat E0.out 0 (.int .u8 a0) rfl
        have x1 := cat E2.out 1 (.int .i64 t) rfl
        have x2 := cat E1.out 1 (.int .i64 l.f1) rfl
        by_cases hd : a0 = 1 ∨ t = 0
        · rw [if_pos hd] at hf
          have HR := Aside0.mk (Option.some.inj hf).symm
          by_cases ha : a0 = 1
          · have b3 : (a0 == 1) = true := beq_iff_eq.mpr ha
            clear hf hd ha
            go_wp2_with (first | ((with_reducible refine ldM rfl rfl E1.out 2 (kc l.f2) ?_ ?_ ?_ ?_); rfl; exact row26; rfl) | ((with_reducible refine stR rfl rfl E3.out (kc l.f2) ?_ ?_ ?_ ?_ ?_ ?_); rfl; rfl; exact row26; rfl; rfl; intro W3 P1))
            refine bodyPost_ret (ret_key rfl rfl rfl P1.at_) rfl ?_
            exact ⟨by rw [HR.out]; rfl, P1.below EB.out (by omega)⟩
          · have b3 : (a0 == 1) = false := beq_eq_false_iff_ne.mpr ha
            have b4 : (t == 0) = true := beq_iff_eq.mpr (hd.resolve_left ha)
            clear hf hd ha
            go_wp2_with (first | ((with_reducible refine ldM rfl rfl E1.out 2 (kc l.f2) ?_ ?_ ?_ ?_); rfl; exact row26; rfl) | ((with_reducible refine stR rfl rfl E3.out (kc l.f2) ?_ ?_ ?_ ?_ ?_ ?_); rfl; rfl; exact row26; rfl; rfl; intro W3 P1))
            refine bodyPost_ret (ret_key rfl rfl rfl P1.at_) rfl ?_
            exact ⟨by rw [HR.out]; rfl, P1.below EB.out (by omega)⟩
        · rw [if_neg hd] at hf
          obtain ⟨xs, hx, hr⟩ := Option.map_eq_some_iff.mp hf
          have HR := Aside0.mk hr.symm
          have hpr := HPA.out rfl (fun e => hd (.inl e)) (fun e => hd (.inr e))
          rw [hx] at hpr
          obtain ⟨kk, pp, h1, h2, h3, h4⟩ := hpr.out
          have h2' : pp.drop 1 = xs := h2
          have HPP := Aside0.mk (And.intro h1 (And.intro h3 h4))
          have HXS := Aside0.mk h2'
          have b3 : (a0 == 1) = false := beq_eq_false_iff_ne.mpr (fun e => hd (.inl e))
          have b4 : (t == 0) = false := beq_eq_false_iff_ne.mpr (fun e => hd (.inr e))
          clear hf hd hx hr hpr h1 h2 h2' h3 h4
          go_wp2_with (first
            | ((with_reducible refine ldM rfl rfl E1.out 2 (kc l.f2) ?_ ?_ ?_ ?_); rfl; exact row26; rfl)
            | (go_at_call 148; refine (down_calls l.f2 HKO.out l.f1 t pp HPP.out.2.1 HPP.out.2.2 kk HPP.out.1 _).mono ?_; rw [HXS.out]; rintro e2 w2 ⟨rfl, hb2⟩; obtain ⟨K2, hK⟩ : ∃ K2, K2 = descK l.f2 xs := ⟨_, rfl⟩; have hko : KOK K2 := (by rw [hK]; exact descK_ok HKO.out _); rw [← hK]; have HK2 := Aside0.mk hK; have HB2 := Aside0.mk hb2; have HKO2 := Aside0.mk hko; clear hK hb2 hko)
            | (go_at_call 89; refine (rDerive_calls K2 33 0 HKO2.out (by omega) wok0 _).mono ?_; rintro e3 w3 ⟨rfl, hb3⟩; obtain ⟨K3, hK⟩ : ∃ K3, K3 = derK K2 33 0 := ⟨_, rfl⟩; rw [← hK]; have HK3 := Aside0.mk hK; have HB3 := Aside0.mk hb3; clear hK hb3)
            | ((with_reducible refine stR rfl rfl (blk_to (blk_to E3.out HB2.out) HB3.out) (kc K3) ?_ ?_ ?_ ?_ ?_ ?_); rfl; rfl; exact row26; rfl; rfl; intro W3 P1))
          refine bodyPost_ret (ret_key rfl rfl rfl P1.at_) rfl ?_
          have hb2 : Below w.heap.size w w2 := EB.out.trans (HB2.out.mono EB.out.size)
          exact ⟨by rw [HR.out, HK3.out, HK2.out]; rfl, P1.below (hb2.trans (HB3.out.mono hb2.size)) (by omega)⟩
    · have hi2 : i = ls.length := by have := HI.out; omega
      subst hi2
      have hf := HF.out
      rw [List.drop_length] at hf
      simp only [findF, Option.some.injEq] at hf
      have HR := Aside0.mk hf.symm
      clear hf HF
      go_wp2_with (first | ((with_reducible refine stR rfl rfl C3.out (kc z26) ?_ ?_ ?_ ?_ ?_ ?_); rfl; rfl; exact row26; rfl; rfl; intro W3 P1))
      refine bodyPost_ret (ret_key rfl rfl rfl P1.at_) rfl ?_
      exact ⟨by rw [HR.out]; rfl, P1.below CB.out (by omega)⟩
end Go.Proofs.Ytafhimeoijmolaa.K
namespace Go.Proofs.Ytafhimeoijmolaa.K
open Go.RowKit  Go.Proofs.YtafhimeoijmolaaW.PrintWords Go.Proofs.YtafhimeoijmolaaW.PrintLast Go.Proofs.YtafhimeoijmolaaW.PrintMore Go.Proofs.Ytafhimeoijmolaa.G
set_option linter.unusedVariables false
set_option linter.unusedSimpArgs false
attribute [local go_sem high] eqK eqK0
end Go.Proofs.Ytafhimeoijmolaa.K
namespace Go.Proofs.Ytafhimeoijmolaa.K
open Go.RowKit  Go.Proofs.YtafhimeoijmolaaW.PrintWords Go.Proofs.YtafhimeoijmolaaW.PrintLast Go.Proofs.YtafhimeoijmolaaW.PrintMore Go.Proofs.Ytafhimeoijmolaa.G
set_option linter.unusedVariables false
set_option linter.unusedSimpArgs false
attribute [local go_sem high] eqK eqK0
def rAns (vb sb : Bool) (r : S26 × Int) : S26 × Int := if vb = true then (if sb = true then r else (z26, 31)) else (z26, 30)
set_option maxHeartbeats 4000000 in
set_option maxRecDepth 100000 in
theorem rSubsetKey_calls (root : S26) (hk : KOK root) (a0 a1 a2 a3 a4 a5 v t : Int) (vb sb : Bool) (kk : Nat) (xs : List Int) (w : World) (h1 : headendref03_Valid.f a0 a1 a2 a3 a4 a5 = some vb) (h2 : vb = true → headendref03_IsSubset.f kk a0 a1 a2 a3 a4 a5 v t = some sb) (h3 : vb = true → sb = true → a0 ≠ 1 → t ≠ 0 → PathR v t xs) :
    Calls Try.prog 53 #[kv root, .agg #[.int .u8 a0, .int .i64 a1, .int .i64 a2, .int .u64 a3, .int .u64 a4, .int .u64 a5], .agg #[.int .i64 v, .int .i64 t]] w fun e' w' => e' = .returned (.tuple #[kv (rAns vb sb (keyI a0 v t xs root, 0)).1, .int .i64 (rAns vb sb (keyI a0 v t xs root, 0)).2]) ∧ Below w.heap.size w w' := by
  obtain ⟨W0, hW0⟩ : ∃ W0, ((((w.alloc (.cells (kc root) 26)).alloc (.cells #[.int .u8 a0, .int .i64 a1, .int .i64 a2, .int .u64 a3, .int .u64 a4, .int .u64 a5] 45)).alloc (.cells #[.int .i64 v, .int .i64 t] 47)).alloc (.cells (kc z26) 26)) = W0 := ⟨_, rfl⟩
  have B0 := Aside0.mk (show W0.heap[w.heap.size]? = some (.cells (kc root) 26 (0, 0)) by rw [← hW0]; exact (blk_alloc (blk_alloc (blk_alloc (newAt rfl) _) _) _))
  have B1 := Aside0.mk (show W0.heap[w.heap.size + 1]? = some (.cells #[.int .u8 a0, .int .i64 a1, .int .i64 a2, .int .u64 a3, .int .u64 a4, .int .u64 a5] 45 (0, 0)) by rw [← hW0]; exact (blk_alloc (blk_alloc (newAt (by simp)) _) _))
  have B2 := Aside0.mk (show W0.heap[w.heap.size + 1 + 1]? = some (.cells #[.int .i64 v, .int .i64 t] 47 (0, 0)) by rw [← hW0]; exact (blk_alloc (newAt (by simp)) _))
  have B3 := Aside0.mk (show W0.heap[w.heap.size + 1 + 1 + 1]? = some (.cells (kc z26) 26 (0, 0)) by rw [← hW0]; exact (newAt (by simp)))
  have BB := Aside0.mk (show Below w.heap.size w W0 by rw [← hW0]; exact (((((Below.refl _ w).alloc (Nat.le_refl _) _).alloc (by simp) _).alloc (by simp; omega) _).alloc (by simp; omega) _))
  have BBs := Aside0.mk (show w.heap.size + 4 = W0.heap.size by rw [← hW0]; simp)
  have HW := Aside0.mk hW0
  clear hW0
  have H1 := Aside0.mk h1; have H2 := Aside0.mk h2; have H3 := Aside0.mk h3; have HK := Aside0.mk hk
  obtain ⟨R, hR⟩ : ∃ R, R = rAns vb sb (keyI a0 v t xs root, 0) := ⟨_, rfl⟩
  rw [← hR]
  have HR := Aside0.mk hR
  clear h1 h2 h3 hk hR
  go_enter Try.func53, Try.ntmps53
  go_upto_region 1 with (fail)
  show Code.wp _ _ _ _ ((((w.alloc (.cells (kc root) 26)).alloc (.cells #[.int .u8 a0, .int .i64 a1, .int .i64 a2, .int .u64 a3, .int .u64 a4, .int .u64 a5] 45)).alloc (.cells #[.int .i64 v, .int .i64 t] 47)).alloc (.cells (kc z26) 26))
  rw [HW.out]
  go_wp2_with (first | ((with_reducible refine ldR rfl rfl B1.out ?_ ?_ ?_); rfl; exact row45))
  go_at_call 61
  refine (headendref03_Valid.calls a0 a1 a2 a3 a4 a5 vb _ H1.out).mono ?_
  rintro e1 w1 ⟨rfl, hb1⟩
  have C0 := Aside0.mk (blk_to B0.out hb1); have C1 := Aside0.mk (blk_to B1.out hb1); have C2 := Aside0.mk (blk_to B2.out hb1); have C3 := Aside0.mk (blk_to B3.out hb1)
  have CB := Aside0.mk (BB.out.trans (hb1.mono BB.out.size))
  have hcs : w.heap.size + 4 ≤ w1.heap.size := by have := hb1.size; have := BBs.out; omega
  clear hb1 B0 B1 B2 B3 BB BBs HW H1
  cases vb with
  | false =>
    have E1 := Aside0.mk (show R = (z26, 30) from HR.out)
    go_wp2_with (first | ((with_reducible refine stR rfl rfl C3.out (kc z26) ?_ ?_ ?_ ?_ ?_ ?_); rfl; rfl; exact row26; rfl; rfl; intro W2 P1))
    refine bodyPost_ret (ret_key rfl rfl rfl P1.at_) rfl ?_
    exact ⟨by rw [E1.out]; rfl, P1.below CB.out (by omega)⟩
  | true =>
    have E1 := Aside0.mk (show R = (if sb = true then (keyI a0 v t xs root, 0) else (z26, 31)) from HR.out)
    have K2 := Aside0.mk (H2.out rfl); have K3 := Aside0.mk (H3.out rfl)
    clear H2 H3 HR
    go_wp2_with (first | ((with_reducible refine ldR rfl rfl C1.out ?_ ?_ ?_); rfl; exact row45) | ((with_reducible refine ldR rfl rfl C2.out ?_ ?_ ?_); rfl; exact row47))
    go_at_call 64
    refine (headendref03_IsSubset.calls kk a0 a1 a2 a3 a4 a5 v t sb _ K2.out).mono ?_
    rintro e2 w2 ⟨rfl, hb2⟩
    have D0 := Aside0.mk (blk_to C0.out hb2); have D1 := Aside0.mk (blk_to C1.out hb2); have D2 := Aside0.mk (blk_to C2.out hb2); have D3 := Aside0.mk (blk_to C3.out hb2)
    have DB := Aside0.mk (CB.out.trans (hb2.mono CB.out.size))
    clear hb2 C0 C1 C2 C3 CB K2
    cases sb with
    | false =>
      have E2 := Aside0.mk (show R = (z26, 31) from E1.out)
      go_wp2_with (first | ((with_reducible refine stR rfl rfl D3.out (kc z26) ?_ ?_ ?_ ?_ ?_ ?_); rfl; rfl; exact row26; rfl; rfl; intro W2 P1))
      refine bodyPost_ret (ret_key rfl rfl rfl P1.at_) rfl ?_
      exact ⟨by rw [E2.out]; rfl, P1.below DB.out (by omega)⟩
    | true =>
      have E2 := Aside0.mk (show R = (keyI a0 v t xs root, 0) from E1.out)
      have K4 := Aside0.mk (K3.out rfl)
      clear E1 K3
      go_wp2_with (first | ((with_reducible refine ldR rfl rfl D0.out ?_ ?_ ?_); rfl; exact row26) | ((with_reducible refine ldR rfl rfl D1.out ?_ ?_ ?_); rfl; exact row45) | ((with_reducible refine ldR rfl rfl D2.out ?_ ?_ ?_); rfl; exact row47))
      go_at_call 91
      refine (KeyOf_calls root HK.out a0 a1 a2 a3 a4 a5 v t xs K4.out _).mono ?_
      rintro e3 w3 ⟨rfl, hb3⟩
      obtain ⟨K, hK⟩ : ∃ K, K = keyI a0 v t xs root := ⟨_, rfl⟩
      rw [← hK] at E2 ⊢
      have F3 := Aside0.mk (blk_to D3.out hb3)
      have FB := Aside0.mk (DB.out.trans (hb3.mono DB.out.size))
      clear hb3 D0 D1 D2 D3 DB hK
      go_wp2_with (first | ((with_reducible refine stR rfl rfl F3.out (kc K) ?_ ?_ ?_ ?_ ?_ ?_); rfl; rfl; exact row26; rfl; rfl; intro W2 P1))
      refine bodyPost_ret (ret_key rfl rfl rfl P1.at_) rfl ?_
      exact ⟨by rw [E2.out]; rfl, P1.below FB.out (by omega)⟩
set_option maxHeartbeats 4000000 in
set_option maxRecDepth 100000 in
theorem rFind_calls (a0 a1 a2 a3 a4 a5 rcv p q v t : Int) (A : Option Addr) (cap : Nat) (ls : List S83) (vb sb : Bool) (kk : Nat) (r : S26 × Bool) (w : World) (hC : Kd.C k83 w A ls.length ls) (h1 : headendref03_Valid.f a0 a1 a2 a3 a4 a5 = some vb) (h2 : vb = true → headendref03_IsSubset.f kk a0 a1 a2 a3 a4 a5 v t = some sb)
    (h3 : vb = true → sb = true → LabOK a0 a1 a2 a3 a4 a5 v t ls ∧ findF a0 v t ls = some r) :
    Calls Try.prog 55 #[.agg #[.int .u8 a0, .int .i64 a1, .int .i64 a2, .int .u64 a3, .int .u64 a4, .int .u64 a5], sv rcv A ls.length cap p q, .agg #[.int .i64 v, .int .i64 t]] w fun e' w' => e' = .returned (.tuple #[kv (rAns vb sb (findR 0 r)).1, .int .i64 (rAns vb sb (findR 0 r)).2]) ∧ Below w.heap.size w w' := by
  obtain ⟨W0, hW0⟩ : ∃ W0, ((((w.alloc (.cells #[.int .u8 a0, .int .i64 a1, .int .i64 a2, .int .u64 a3, .int .u64 a4, .int .u64 a5] 45)).alloc (.cells (sc rcv A ls.length cap p q) 76)).alloc (.cells #[.int .i64 v, .int .i64 t] 47)).alloc (.cells (kc z26) 26)) = W0 := ⟨_, rfl⟩
  have B0 := Aside0.mk (show W0.heap[w.heap.size]? = some (.cells #[.int .u8 a0, .int .i64 a1, .int .i64 a2, .int .u64 a3, .int .u64 a4, .int .u64 a5] 45 (0, 0)) by rw [← hW0]; exact (blk_alloc (blk_alloc (blk_alloc (newAt rfl) _) _) _))
  have B1 := Aside0.mk (show W0.heap[w.heap.size + 1]? = some (.cells (sc rcv A ls.length cap p q) 76 (0, 0)) by rw [← hW0]; exact (blk_alloc (blk_alloc (newAt (by simp)) _) _))
  have B2 := Aside0.mk (show W0.heap[w.heap.size + 1 + 1]? = some (.cells #[.int .i64 v, .int .i64 t] 47 (0, 0)) by rw [← hW0]; exact (blk_alloc (newAt (by simp)) _))
  have B3 := Aside0.mk (show W0.heap[w.heap.size + 1 + 1 + 1]? = some (.cells (kc z26) 26 (0, 0)) by rw [← hW0]; exact (newAt (by simp)))
  have BB := Aside0.mk (show Below w.heap.size w W0 by rw [← hW0]; exact (((((Below.refl _ w).alloc (Nat.le_refl _) _).alloc (by simp) _).alloc (by simp; omega) _).alloc (by simp; omega) _))
  have BBs := Aside0.mk (show w.heap.size + 4 = W0.heap.size by rw [← hW0]; simp)
  have HW := Aside0.mk hW0
  clear hW0
  have H1 := Aside0.mk h1; have H2 := Aside0.mk h2; have H3 := Aside0.mk h3; have HC := Aside0.mk (Kd.C_below hC BB.out)
  obtain ⟨R, hR⟩ : ∃ R, R = rAns vb sb (findR 0 r) := ⟨_, rfl⟩
  rw [← hR]
  have HR := Aside0.mk hR
  clear h1 h2 h3 hC hR
  go_enter Try.func55, Try.ntmps55
  go_upto_region 1 with (fail)
  show Code.wp _ _ _ _ ((((w.alloc (.cells #[.int .u8 a0, .int .i64 a1, .int .i64 a2, .int .u64 a3, .int .u64 a4, .int .u64 a5] 45)).alloc (.cells (sc rcv A ls.length cap p q) 76)).alloc (.cells #[.int .i64 v, .int .i64 t] 47)).alloc (.cells (kc z26) 26))
  rw [HW.out]
  go_wp2_with (first | ((with_reducible refine ldR rfl rfl B0.out ?_ ?_ ?_); rfl; exact row45))
  go_at_call 61
  refine (headendref03_Valid.calls a0 a1 a2 a3 a4 a5 vb _ H1.out).mono ?_
  rintro e1 w1 ⟨rfl, hb1⟩
  have C0 := Aside0.mk (blk_to B0.out hb1); have C1 := Aside0.mk (blk_to B1.out hb1); have C2 := Aside0.mk (blk_to B2.out hb1); have C3 := Aside0.mk (blk_to B3.out hb1)
  have CB := Aside0.mk (BB.out.trans (hb1.mono BB.out.size)); have CC := Aside0.mk (Kd.C_below HC.out hb1)
  have hcs : w.heap.size + 4 ≤ w1.heap.size := by have := hb1.size; have := BBs.out; omega
  clear hb1 B0 B1 B2 B3 BB BBs HW H1 HC
  cases vb with
  | false =>
    have E1 := Aside0.mk (show R = (z26, 30) from HR.out)
    go_wp2_with (first | ((with_reducible refine stR rfl rfl C3.out (kc z26) ?_ ?_ ?_ ?_ ?_ ?_); rfl; rfl; exact row26; rfl; rfl; intro W2 P1))
    refine bodyPost_ret (ret_key rfl rfl rfl P1.at_) rfl ?_
    exact ⟨by rw [E1.out]; rfl, P1.below CB.out (by omega)⟩
  | true =>
    have E1 := Aside0.mk (show R = (if sb = true then (findR 0 r) else (z26, 31)) from HR.out)
    have K2 := Aside0.mk (H2.out rfl); have K3 := Aside0.mk (H3.out rfl)
    clear H2 H3 HR
    go_wp2_with (first | ((with_reducible refine ldR rfl rfl C0.out ?_ ?_ ?_); rfl; exact row45) | ((with_reducible refine ldR rfl rfl C2.out ?_ ?_ ?_); rfl; exact row47))
    go_at_call 64
    refine (headendref03_IsSubset.calls kk a0 a1 a2 a3 a4 a5 v t sb _ K2.out).mono ?_
    rintro e2 w2 ⟨rfl, hb2⟩
    have D0 := Aside0.mk (blk_to C0.out hb2); have D1 := Aside0.mk (blk_to C1.out hb2); have D2 := Aside0.mk (blk_to C2.out hb2); have D3 := Aside0.mk (blk_to C3.out hb2)
    have DB := Aside0.mk (CB.out.trans (hb2.mono CB.out.size)); have DC := Aside0.mk (Kd.C_below CC.out hb2)
    have hds : w1.heap.size ≤ w2.heap.size := hb2.size
    clear hb2 C0 C1 C2 C3 CB K2 CC
    cases sb with
    | false =>
      have E2 := Aside0.mk (show R = (z26, 31) from E1.out)
      go_wp2_with (first | ((with_reducible refine stR rfl rfl D3.out (kc z26) ?_ ?_ ?_ ?_ ?_ ?_); rfl; rfl; exact row26; rfl; rfl; intro W2 P1))
      refine bodyPost_ret (ret_key rfl rfl rfl P1.at_) rfl ?_
      exact ⟨by rw [E2.out]; rfl, P1.below DB.out (by omega)⟩
    | true =>
      have E2 := Aside0.mk (show R = findR 0 r from E1.out)
      have K4 := Aside0.mk (K3.out rfl)
      clear E1 K3
      go_wp2_with (first | ((with_reducible refine ldR rfl rfl D0.out ?_ ?_ ?_); rfl; exact row45) | ((with_reducible refine ldR rfl rfl D1.out ?_ ?_ ?_); rfl; exact row76) | ((with_reducible refine ldR rfl rfl D2.out ?_ ?_ ?_); rfl; exact row47))
      go_at_call 110
      refine (rLeads_calls a0 a1 a2 a3 a4 a5 rcv p q A cap ls v t r _ DC.out K4.out.1 K4.out.2).mono ?_
      rintro e3 w3 ⟨rfl, hb3⟩
      obtain ⟨K, ok⟩ := r
      have F3 := Aside0.mk (blk_to D3.out hb3)
      have FB := Aside0.mk (DB.out.trans (hb3.mono DB.out.size))
      have hfs : w2.heap.size ≤ w3.heap.size := hb3.size
      have E3 := Aside0.mk (show R = (if ok = true then (K, 0) else (z26, 6)) from E2.out)
      clear hb3 D0 D1 D2 D3 DB DC E2
      cases ok with
      | true =>
        have E4 := Aside0.mk (show R = (K, 0) from E3.out)
        go_wp2_with (first
          | (((with_reducible refine stR rfl rfl (newAt rfl) (kc K) ?_ ?_ ?_ ?_ ?_ ?_); rfl; rfl; exact row26; rfl; rfl; intro W2 P1); have G3 := Aside0.mk (P1.blk (blk_alloc F3.out _) (by omega)); have G1 := Aside0.mk P1.at_; have GB := Aside0.mk (P1.below (FB.out.alloc FB.out.size _) (by omega)); clear P1)
          | ((with_reducible refine ldR rfl rfl G1.out ?_ ?_ ?_); rfl; exact row26)
          | ((with_reducible refine stR rfl rfl G3.out (kc K) ?_ ?_ ?_ ?_ ?_ ?_); rfl; rfl; exact row26; rfl; rfl; intro W3 P2))
        refine bodyPost_ret (ret_key rfl rfl rfl P2.at_) rfl ?_
        exact ⟨by rw [E4.out]; rfl, P2.below GB.out (by omega)⟩
      | false =>
        have E4 := Aside0.mk (show R = (z26, 6) from E3.out)
        go_wp2_with (first
          | (((with_reducible refine stR rfl rfl (newAt rfl) (kc K) ?_ ?_ ?_ ?_ ?_ ?_); rfl; rfl; exact row26; rfl; rfl; intro W2 P1); have G3 := Aside0.mk (P1.blk (blk_alloc F3.out _) (by omega)); have GB := Aside0.mk (P1.below (FB.out.alloc FB.out.size _) (by omega)); clear P1)
          | ((with_reducible refine stR rfl rfl G3.out (kc z26) ?_ ?_ ?_ ?_ ?_ ?_); rfl; rfl; exact row26; rfl; rfl; intro W3 P2))
        refine bodyPost_ret (ret_key rfl rfl rfl P2.at_) rfl ?_
        exact ⟨by rw [E4.out]; rfl, P2.below GB.out (by omega)⟩
end Go.Proofs.Ytafhimeoijmolaa.K
namespace Go.Proofs.Ytafhimeoijmolaa.K
open Go.RowKit  Go.Proofs.YtafhimeoijmolaaW.PrintWords Go.Proofs.YtafhimeoijmolaaW.PrintLast Go.Proofs.YtafhimeoijmolaaW.PrintMore Go.Proofs.Ytafhimeoijmolaa.G
set_option linter.unusedVariables false
set_option linter.unusedSimpArgs false
attribute [local go_sem high] eqK eqK0
set_option maxHeartbeats 4000000 in
set_option maxRecDepth 100000 in
theorem lawKeys_calls (root : S26) (a0 a1 a2 a3 a4 a5 rcv p q v t u : Int) (LA A : Option Addr) (cap c : Nat) (ls : List S83) (l : List Int) (w : World) (hL : Kd.C k83 w LA ls.length ls) (hC : Kd.C (Kd.int .i64) w A l.length l) (hlb : ls.length * 32 ≤ 140737488351232) (rk rf : S26 × Int) (rw_ : Int × Int) (rb : Bool × Int)
    (k1 : ∀ w, Calls Try.prog 52 #[kv root, .agg #[.int .u8 a0, .int .i64 a1, .int .i64 a2, .int .u64 a3, .int .u64 a4, .int .u64 a5], .agg #[.int .i64 v, .int .i64 t]] w fun e' w' => e' = .returned (.tuple #[kv rk.1, .int .i64 rk.2]) ∧ Below w.heap.size w w')
    (k2 : ∀ w, Calls Try.prog 53 #[kv root, .agg #[.int .u8 a0, .int .i64 a1, .int .i64 a2, .int .u64 a3, .int .u64 a4, .int .u64 a5], .agg #[.int .i64 v, .int .i64 t]] w fun e' w' => e' = .returned (.tuple #[kv rk.1, .int .i64 rk.2]) ∧ Below w.heap.size w w')
    (f1 : ∀ (LA : Option Addr) (cap : Nat) w, Kd.C k83 w LA ls.length ls → Calls Try.prog 54 #[.agg #[.int .u8 a0, .int .i64 a1, .int .i64 a2, .int .u64 a3, .int .u64 a4, .int .u64 a5], sv rcv LA ls.length cap p q, .agg #[.int .i64 v, .int .i64 t]] w fun e' w' => e' = .returned (.tuple #[kv rf.1, .int .i64 rf.2]) ∧ Below w.heap.size w w')
    (f2 : ∀ (LA : Option Addr) (cap : Nat) w, Kd.C k83 w LA ls.length ls → Calls Try.prog 55 #[.agg #[.int .u8 a0, .int .i64 a1, .int .i64 a2, .int .u64 a3, .int .u64 a4, .int .u64 a5], sv rcv LA ls.length cap p q, .agg #[.int .i64 v, .int .i64 t]] w fun e' w' => e' = .returned (.tuple #[kv rf.1, .int .i64 rf.2]) ∧ Below w.heap.size w w')
    (w1_ : ∀ w, Calls Try.prog 47 #[.agg #[.int .u8 a0, .int .i64 a1, .int .i64 a2, .int .u64 a3, .int .u64 a4, .int .u64 a5], .int .i64 u, .agg #[.int .i64 v, .int .i64 t]] w fun e' w' => e' = .returned (.tuple #[.int .i64 rw_.1, .int .i64 rw_.2]) ∧ Below w.heap.size w w')
    (w2_ : ∀ w, Calls Try.prog 56 #[.agg #[.int .u8 a0, .int .i64 a1, .int .i64 a2, .int .u64 a3, .int .u64 a4, .int .u64 a5], .int .i64 u, .agg #[.int .i64 v, .int .i64 t]] w fun e' w' => e' = .returned (.tuple #[.int .i64 rw_.1, .int .i64 rw_.2]) ∧ Below w.heap.size w w')
    (n1 : ∀ w, Kd.C (Kd.int .i64) w A l.length l → Calls Try.prog 57 #[.agg #[.int .u8 a0, .int .i64 a1, .int .i64 a2, .int .u64 a3, .int .u64 a4, .int .u64 a5], .slice A l.length c, .agg #[.int .i64 v, .int .i64 t]] w fun e' w' => e' = .returned (.tuple #[.bool rb.1, .int .i64 rb.2]) ∧ Below w.heap.size w w')
    (n2 : ∀ w, Kd.C (Kd.int .i64) w A l.length l → Calls Try.prog 58 #[.agg #[.int .u8 a0, .int .i64 a1, .int .i64 a2, .int .u64 a3, .int .u64 a4, .int .u64 a5], .slice A l.length c, .agg #[.int .i64 v, .int .i64 t]] w fun e' w' => e' = .returned (.tuple #[.bool rb.1, .int .i64 rb.2]) ∧ Below w.heap.size w w') :
    Calls Try.prog 11 #[kv root, .agg #[.int .u8 a0, .int .i64 a1, .int .i64 a2, .int .u64 a3, .int .u64 a4, .int .u64 a5], sv rcv LA ls.length cap p q, .agg #[.int .i64 v, .int .i64 t], .int .i64 u, .slice A l.length c] w fun e' w' => e' = .returned (.bool true) ∧ Below w.heap.size w w' := by
  obtain ⟨W0, hW0⟩ : ∃ W0, ((((w.alloc (.cells (kc root) 26)).alloc (.cells #[.int .u8 a0, .int .i64 a1, .int .i64 a2, .int .u64 a3, .int .u64 a4, .int .u64 a5] 45)).alloc (.cells (sc rcv LA ls.length cap p q) 76)).alloc (.cells #[.int .i64 v, .int .i64 t] 47)) = W0 := ⟨_, rfl⟩
  have B0 := Aside0.mk (show W0.heap[w.heap.size]? = some (.cells (kc root) 26 (0, 0)) by rw [← hW0]; exact (blk_alloc (blk_alloc (blk_alloc (newAt rfl) _) _) _))
  have B1 := Aside0.mk (show W0.heap[w.heap.size + 1]? = some (.cells #[.int .u8 a0, .int .i64 a1, .int .i64 a2, .int .u64 a3, .int .u64 a4, .int .u64 a5] 45 (0, 0)) by rw [← hW0]; exact (blk_alloc (blk_alloc (newAt (by simp)) _) _))
  have B2 := Aside0.mk (show W0.heap[w.heap.size + 1 + 1]? = some (.cells (sc rcv LA ls.length cap p q) 76 (0, 0)) by rw [← hW0]; exact (blk_alloc (newAt (by simp)) _))
  have B3 := Aside0.mk (show W0.heap[w.heap.size + 1 + 1 + 1]? = some (.cells #[.int .i64 v, .int .i64 t] 47 (0, 0)) by rw [← hW0]; exact (newAt (by simp)))
  have BB := Aside0.mk (show Below w.heap.size w W0 by rw [← hW0]; exact (((((Below.refl _ w).alloc (Nat.le_refl _) _).alloc (by simp) _).alloc (by simp; omega) _).alloc (by simp; omega) _))
  have BBs := Aside0.mk (show w.heap.size + 4 = W0.heap.size by rw [← hW0]; simp)
  have HW := Aside0.mk hW0
  clear hW0
  have K1 := Aside0.mk k1; have K2 := Aside0.mk k2; have F1 := Aside0.mk f1; have F2 := Aside0.mk f2; have V1 := Aside0.mk w1_; have V2 := Aside0.mk w2_; have N1 := Aside0.mk n1; have N2 := Aside0.mk n2
  have HL := Aside0.mk (Kd.C_below hL BB.out); have HC := Aside0.mk (Kd.C_below hC BB.out)
  have hsz := BBs.out
  have hL0 := Aside0.mk hL; have hC0 := Aside0.mk hC
  clear k1 k2 f1 f2 w1_ w2_ n1 n2 hL hC
  obtain ⟨Ka, ea⟩ := rk
  obtain ⟨Kb, eb⟩ := rf
  obtain ⟨wn, we⟩ := rw_
  obtain ⟨bb, be⟩ := rb
  go_enter Try.func11, Try.ntmps11
  go_upto_region 1 with (fail)
  show Code.wp _ _ _ _ ((((w.alloc (.cells (kc root) 26)).alloc (.cells #[.int .u8 a0, .int .i64 a1, .int .i64 a2, .int .u64 a3, .int .u64 a4, .int .u64 a5] 45)).alloc (.cells (sc rcv LA ls.length cap p q) 76)).alloc (.cells #[.int .i64 v, .int .i64 t] 47))
  rw [HW.out]
  go_wp2_with (first | ((with_reducible refine ldR rfl rfl B2.out ?_ ?_ ?_); rfl; exact row76))
  go_at_call 49
  refine (TwinSecret_calls rcv p q LA cap ls _ HL.out hlb).mono ?_
  rintro e1 w1 ⟨A1, c1, rfl, hr1, hb1⟩
  have C0 := Aside0.mk (blk_to B0.out hb1); have C1 := Aside0.mk (blk_to B1.out hb1); have C2 := Aside0.mk (blk_to B2.out hb1); have C3 := Aside0.mk (blk_to B3.out hb1)
  have CL := Aside0.mk (Kd.C_below HL.out hb1); have CC := Aside0.mk (Kd.C_below HC.out hb1); have CR := Aside0.mk (Kd.R_mono (ok' := fun k => k < w1.heap.size) (Kd.R_bound hr1) (fun k hk => hk.2.2.1))
  have CB := Aside0.mk (BB.out.trans (hb1.mono BB.out.size))
  have hcs : W0.heap.size ≤ w1.heap.size := hb1.size
  clear hb1 hr1 B0 B1 B2 B3 BB BBs HW HL HC
  go_wp2_with (first
    | (((with_reducible refine stR rfl rfl (newAt rfl) (sc rcv A1 ls.length c1 p q) ?_ ?_ ?_ ?_ ?_ ?_); rfl; rfl; exact row76; rfl; rfl; intro W2 P1); have D0 := Aside0.mk (P1.blk (blk_alloc C0.out _) (by omega)); have D1 := Aside0.mk (P1.blk (blk_alloc C1.out _) (by omega)); have D2 := Aside0.mk (P1.blk (blk_alloc C2.out _) (by omega)); have D3 := Aside0.mk (P1.blk (blk_alloc C3.out _) (by omega)); have DO := Aside0.mk P1.at_; have DW := Aside0.mk (show Below w1.heap.size w1 W2 from P1.below ((Below.refl _ _).alloc (Nat.le_refl _) _) (Nat.le_refl _)); have hds : w1.heap.size + 1 = W2.heap.size := (by have := P1.size; simp at this; omega); clear P1)
    | ((with_reducible refine ldR rfl rfl D0.out ?_ ?_ ?_); rfl; exact row26) | ((with_reducible refine ldR rfl rfl D1.out ?_ ?_ ?_); rfl; exact row45) | ((with_reducible refine ldR rfl rfl D3.out ?_ ?_ ?_); rfl; exact row47))
  go_at_call 52
  have DL := Aside0.mk (Kd.C_below CL.out DW.out); have DC := Aside0.mk (Kd.C_below CC.out DW.out); have DR := Aside0.mk (Kd.R_below CR.out DW.out)
  have DB := Aside0.mk (CB.out.trans (DW.out.mono CB.out.size))
  clear CL CC CR DW C0 C1 C2 C3 CB
  refine (K1.out _).mono ?_
  rintro e2 w2 ⟨rfl, hb2⟩
  have E0 := Aside0.mk (blk_to D0.out hb2); have E1 := Aside0.mk (blk_to D1.out hb2); have E2 := Aside0.mk (blk_to D2.out hb2); have E3 := Aside0.mk (blk_to D3.out hb2); have EO := Aside0.mk (blk_to DO.out hb2)
  have EL := Aside0.mk (Kd.C_below DL.out hb2); have EC := Aside0.mk (Kd.C_below DC.out hb2); have ER := Aside0.mk (Kd.R_below DR.out hb2)
  have EB := Aside0.mk (DB.out.trans (hb2.mono DB.out.size))
  have hes : W2.heap.size ≤ w2.heap.size := hb2.size
  clear hb2 D0 D1 D2 D3 DO DL DC DR DB
  go_wp2_with (first
    | (((with_reducible refine stR rfl rfl (newAt rfl) (kc Ka) ?_ ?_ ?_ ?_ ?_ ?_); rfl; rfl; exact row26; rfl; rfl; intro W3 P2); have G0 := Aside0.mk (P2.blk (blk_alloc E0.out _) (by omega)); have G1 := Aside0.mk (P2.blk (blk_alloc E1.out _) (by omega)); have G2 := Aside0.mk (P2.blk (blk_alloc E2.out _) (by omega)); have G3 := Aside0.mk (P2.blk (blk_alloc E3.out _) (by omega)); have GO := Aside0.mk (P2.blk (blk_alloc EO.out _) (by omega)); have GA := Aside0.mk P2.at_; have GW := Aside0.mk (show Below w2.heap.size w2 W3 from P2.below ((Below.refl _ _).alloc (Nat.le_refl _) _) (Nat.le_refl _)); have hgs : w2.heap.size + 1 = W3.heap.size := (by have := P2.size; simp at this; omega); clear P2)
    | ((with_reducible refine ldR rfl rfl G0.out ?_ ?_ ?_); rfl; exact row26) | ((with_reducible refine ldR rfl rfl G1.out ?_ ?_ ?_); rfl; exact row45) | ((with_reducible refine ldR rfl rfl G3.out ?_ ?_ ?_); rfl; exact row47))
  go_at_call 53
  have GL := Aside0.mk (Kd.C_below EL.out GW.out); have GC := Aside0.mk (Kd.C_below EC.out GW.out); have GR := Aside0.mk (Kd.R_below ER.out GW.out)
  have GB := Aside0.mk (EB.out.trans (GW.out.mono EB.out.size))
  clear EL EC ER GW E0 E1 E2 E3 EO EB
  refine (K2.out _).mono ?_
  rintro e3 w3 ⟨rfl, hb3⟩
  have I1 := Aside0.mk (blk_to G1.out hb3); have I2 := Aside0.mk (blk_to G2.out hb3); have I3 := Aside0.mk (blk_to G3.out hb3); have IO := Aside0.mk (blk_to GO.out hb3); have IA := Aside0.mk (blk_to GA.out hb3)
  have IL := Aside0.mk (Kd.C_below GL.out hb3); have IC := Aside0.mk (Kd.C_below GC.out hb3); have IR := Aside0.mk (Kd.R_below GR.out hb3)
  have IB := Aside0.mk (GB.out.trans (hb3.mono GB.out.size))
  have his : W3.heap.size ≤ w3.heap.size := hb3.size
  have q1 := keq_refl Ka
  have q2 : (ea != ea) = false := by simp
  clear hb3 G0 G1 G2 G3 GO GA GL GC GR GB K1 K2
  go_wp2_with (first
    | (((with_reducible refine stR rfl rfl (newAt rfl) (kc Ka) ?_ ?_ ?_ ?_ ?_ ?_); rfl; rfl; exact row26; rfl; rfl; intro W4 P3); have J1 := Aside0.mk (P3.blk (blk_alloc I1.out _) (by omega)); have J2 := Aside0.mk (P3.blk (blk_alloc I2.out _) (by omega)); have J3 := Aside0.mk (P3.blk (blk_alloc I3.out _) (by omega)); have JO := Aside0.mk (P3.blk (blk_alloc IO.out _) (by omega)); have JA := Aside0.mk (P3.blk (blk_alloc IA.out _) (by omega)); have JB' := Aside0.mk P3.at_; have JW := Aside0.mk (show Below w3.heap.size w3 W4 from P3.below ((Below.refl _ _).alloc (Nat.le_refl _) _) (Nat.le_refl _)); have hjs : w3.heap.size + 1 = W4.heap.size := (by have := P3.size; simp at this; omega); clear P3)
    | ((with_reducible refine ldR rfl rfl JA.out ?_ ?_ ?_); rfl; exact row26) | ((with_reducible refine ldR rfl rfl JB'.out ?_ ?_ ?_); rfl; exact row26) | ((with_reducible refine ldR rfl rfl J1.out ?_ ?_ ?_); rfl; exact row45) | ((with_reducible refine ldR rfl rfl JO.out ?_ ?_ ?_); rfl; exact row76) | ((with_reducible refine ldR rfl rfl J3.out ?_ ?_ ?_); rfl; exact row47))
  go_at_call 54
  have JL := Aside0.mk (Kd.C_below IL.out JW.out); have JC := Aside0.mk (Kd.C_below IC.out JW.out); have JR := Aside0.mk (Kd.R_below IR.out JW.out)
  have JB := Aside0.mk (IB.out.trans (JW.out.mono IB.out.size))
  clear IL IC IR JW I1 I2 I3 IO IA IB q1 q2
  refine (F1.out A1 c1 _ (Kd.R_reads' JR.out).2.2).mono ?_
  rintro e4 w4 ⟨rfl, hb4⟩
  have L1 := Aside0.mk (blk_to J1.out hb4); have L2 := Aside0.mk (blk_to J2.out hb4); have L3 := Aside0.mk (blk_to J3.out hb4); have LO := Aside0.mk (blk_to JO.out hb4); have LP := Aside0.mk (blk_to JA.out hb4); have LQ := Aside0.mk (blk_to JB'.out hb4)
  have LL := Aside0.mk (Kd.C_below JL.out hb4); have LC := Aside0.mk (Kd.C_below JC.out hb4); have LR := Aside0.mk (Kd.R_below JR.out hb4)
  have LB := Aside0.mk (JB.out.trans (hb4.mono JB.out.size))
  have hls : W4.heap.size ≤ w4.heap.size := hb4.size
  clear hb4 J1 J2 J3 JO JA JB' JL JC JR JB
  go_wp2_with (first
    | (((with_reducible refine stR rfl rfl LP.out (kc Kb) ?_ ?_ ?_ ?_ ?_ ?_); rfl; rfl; exact row26; rfl; rfl; intro W5 P4); have M1 := Aside0.mk (P4.blk L1.out (by omega)); have M2 := Aside0.mk (P4.blk L2.out (by omega)); have M3 := Aside0.mk (P4.blk L3.out (by omega)); have MO := Aside0.mk (P4.blk LO.out (by omega)); have MQ := Aside0.mk (P4.blk LQ.out (by omega)); have MP := Aside0.mk P4.at_; have MB := Aside0.mk (show Below w.heap.size w W5 from P4.below LB.out (by omega)); have hms : W5.heap.size = w4.heap.size := P4.size; have MR := Aside0.mk (Kd.R_step (w1 := W5) LR.out (fun j hj _ => P4.oth j (by omega))); clear P4)
    | ((with_reducible refine ldR rfl rfl M1.out ?_ ?_ ?_); rfl; exact row45) | ((with_reducible refine ldR rfl rfl M2.out ?_ ?_ ?_); rfl; exact row76) | ((with_reducible refine ldR rfl rfl M3.out ?_ ?_ ?_); rfl; exact row47))
  go_at_call 55
  have ML := Aside0.mk (Kd.C_below hL0.out MB.out); have MC := Aside0.mk (Kd.C_below hC0.out MB.out)
  clear LL LC LR LB L1 L2 L3 LO LP LQ
  refine (F2.out LA cap _ ML.out).mono ?_
  rintro e5 w5 ⟨rfl, hb5⟩
  have O1 := Aside0.mk (blk_to M1.out hb5); have O2 := Aside0.mk (blk_to M2.out hb5); have O3 := Aside0.mk (blk_to M3.out hb5); have OO := Aside0.mk (blk_to MO.out hb5); have OP := Aside0.mk (blk_to MP.out hb5); have OQ := Aside0.mk (blk_to MQ.out hb5)
  have OL := Aside0.mk (Kd.C_below ML.out hb5); have OR := Aside0.mk (Kd.R_below MR.out hb5)
  have OB := Aside0.mk (MB.out.trans (hb5.mono MB.out.size))
  have hos : W5.heap.size ≤ w5.heap.size := hb5.size
  have q1 := keq_refl Kb
  have q2 : (eb != eb) = false := by simp
  clear hb5 M1 M2 M3 MO MP MQ ML MC MR MB F1 F2
  go_wp2_with (first
    | (((with_reducible refine stR rfl rfl OQ.out (kc Kb) ?_ ?_ ?_ ?_ ?_ ?_); rfl; rfl; exact row26; rfl; rfl; intro W6 P5); have P1 := Aside0.mk (P5.blk O1.out (by omega)); have P2 := Aside0.mk (P5.blk O2.out (by omega)); have P3 := Aside0.mk (P5.blk O3.out (by omega)); have PO := Aside0.mk (P5.blk OO.out (by omega)); have PP := Aside0.mk (P5.blk OP.out (by omega)); have PQ := Aside0.mk P5.at_; have PB := Aside0.mk (show Below w.heap.size w W6 from P5.below OB.out (by omega)); have PR := Aside0.mk (Kd.R_step (w1 := W6) OR.out (fun j hj _ => P5.oth j (by omega))); clear P5)
    | ((with_reducible refine ldR rfl rfl PP.out ?_ ?_ ?_); rfl; exact row26) | ((with_reducible refine ldR rfl rfl PQ.out ?_ ?_ ?_); rfl; exact row26)
    | ((with_reducible refine ldMg rfl PO.out 0 (sc rcv A1 ls.length c1 p q) ?_ ?_ ?_ ?_ ?_); rfl; rfl; exact row76; rfl) | ((with_reducible refine ldMg rfl P2.out 0 (sc rcv LA ls.length cap p q) ?_ ?_ ?_ ?_ ?_); rfl; rfl; exact row76; rfl))
  go_at_call 43
  have PL := Kd.C_below hL0.out PB.out; have PS := (Kd.R_reads' PR.out).2.2
  refine (SameSecret_same rcv p q A1 LA c1 cap ls _ PS PL).mono ?_
  rintro e6 w6 ⟨rfl, hb6⟩
  have Q1 := Aside0.mk (blk_to P1.out hb6); have Q3 := Aside0.mk (blk_to P3.out hb6)
  have QB := Aside0.mk (PB.out.trans (hb6.mono PB.out.size))
  clear hb6 PL PS P1 P2 P3 PO PP PQ PB PR O1 O2 O3 OO OP OQ OL OR OB q1 q2
  have q3 : (wn != wn) = false := by simp
  have q4 : (we != we) = false := by simp
  have q5 : (bb == bb) = true := by simp
  have q6 : (be == be) = true := by simp
  go_wp2_with (first | ((with_reducible refine ldR rfl rfl Q1.out ?_ ?_ ?_); rfl; exact row45) | ((with_reducible refine ldR rfl rfl Q3.out ?_ ?_ ?_); rfl; exact row47))
  go_at_call 47
  refine (V1.out _).mono ?_
  rintro e7 w7 ⟨rfl, hb7⟩
  have R1 := Aside0.mk (blk_to Q1.out hb7); have R3 := Aside0.mk (blk_to Q3.out hb7)
  have RB := Aside0.mk (QB.out.trans (hb7.mono QB.out.size))
  clear hb7 Q1 Q3 QB
  go_wp2_with (first | ((with_reducible refine ldR rfl rfl R1.out ?_ ?_ ?_); rfl; exact row45) | ((with_reducible refine ldR rfl rfl R3.out ?_ ?_ ?_); rfl; exact row47))
  go_at_call 56
  refine (V2.out _).mono ?_
  rintro e8 w8 ⟨rfl, hb8⟩
  have S1 := Aside0.mk (blk_to R1.out hb8); have S3 := Aside0.mk (blk_to R3.out hb8)
  have SB := Aside0.mk (RB.out.trans (hb8.mono RB.out.size))
  clear hb8 R1 R3 RB
  go_wp2_with (first | ((with_reducible refine ldR rfl rfl S1.out ?_ ?_ ?_); rfl; exact row45) | ((with_reducible refine ldR rfl rfl S3.out ?_ ?_ ?_); rfl; exact row47))
  go_at_call 57
  refine (N1.out _ (Kd.C_below hC0.out SB.out)).mono ?_
  rintro e9 w9 ⟨rfl, hb9⟩
  have T1 := Aside0.mk (blk_to S1.out hb9); have T3 := Aside0.mk (blk_to S3.out hb9)
  have TB := Aside0.mk (SB.out.trans (hb9.mono SB.out.size))
  clear hb9 S1 S3 SB
  go_wp2_with (first | ((with_reducible refine ldR rfl rfl T1.out ?_ ?_ ?_); rfl; exact row45) | ((with_reducible refine ldR rfl rfl T3.out ?_ ?_ ?_); rfl; exact row47))
  go_at_call 58
  refine (N2.out _ (Kd.C_below hC0.out TB.out)).mono ?_
  rintro e10 w10 ⟨rfl, hb10⟩
  have hb := TB.out.trans (hb10.mono TB.out.size)
  clear hb10 T1 T3
  go_wp2
  go_ret
  exact ⟨rfl, hb⟩
end Go.Proofs.Ytafhimeoijmolaa.K
namespace Go.Proofs.Ytafhimeoijmolaa.K
open Go.RowKit  Go.Proofs.YtafhimeoijmolaaW.PrintWords Go.Proofs.YtafhimeoijmolaaW.PrintLast Go.Proofs.YtafhimeoijmolaaW.PrintMore Go.Proofs.Ytafhimeoijmolaa.G
set_option linter.unusedVariables false
set_option linter.unusedSimpArgs false
theorem sub_path {a d : Nat} {x : S47} (ha : 1 ≤ a) (ha3 : a ≤ 3) (hd : d ≤ 6) (h : subI a d x.f0 x.f1 = true) (h1 : (a : Int) ≠ 1) (h2 : x.f1 ≠ 0) : ∃ xs, pathF 9 x.f0 x.f1 = some xs ∧ PathR x.f0 x.f1 xs := by
  obtain ⟨n, m, e1, e2, hn1, _, hn, _, hm⟩ := subI_nat ha hd h
  rw [e1, e2] at h
  rw [e2] at h2
  obtain ⟨hb, hne⟩ := sub_below' ha h (by omega) (by omega)
  refine ⟨_, by rw [e1, e2]; exact path_n hn hm hb, ?_⟩
  rw [e1, e2]
  refine ⟨⟨20, _, rPath_n hn hm hb (Nat.le_refl _), rfl, ?_, by simp⟩⟩
  intro y hy
  obtain ⟨q, _, rfl⟩ := List.mem_map.1 hy
  exact Int.natCast_nonneg q
end Go.Proofs.Ytafhimeoijmolaa.K
namespace Go.Proofs.Ytafhimeoijmolaa.K
open Go.RowKit  Go.Proofs.YtafhimeoijmolaaW.PrintWords Go.Proofs.YtafhimeoijmolaaW.PrintLast Go.Proofs.YtafhimeoijmolaaW.PrintMore Go.Proofs.Ytafhimeoijmolaa.G
set_option linter.unusedVariables false
set_option linter.unusedSimpArgs false
def labelsN (a d u : Nat) : List (Nat × Nat) :=
  if a = 1 then (1 :: nodesTo 1 (2 ^ d + u)).map (fun v => (v, 0)) else (1, 0) :: (1 :: nodesTo 1 (2 ^ d + u)).flatMap (fun v => (nodesTo v (2 ^ d + u)).filterMap fun p => if subI a d (v : Int) ((p ^^^ 1 : Nat) : Int) = true then some (v, p ^^^ 1) else none)
def castP (x : Nat × Nat) : Int × Int := ((x.1 : Int), (x.2 : Int))
def sameN : List (Int × Int) → List (Nat × Nat) → Bool
  | [], [] => true
  | (.ofNat a, .ofNat b) :: xs, (c, d) :: ys => Nat.beq a c && (Nat.beq b d && (Nat.ble c 127 && (Nat.ble d 127 && sameN xs ys)))
  | _, _ => false
theorem sameN_eq : ∀ (xs : List (Int × Int)) (ys : List (Nat × Nat)), sameN xs ys = true → xs = ys.map castP ∧ ∀ y ∈ ys, y.1 < 128 ∧ y.2 < 128
  | [], [], _ => ⟨rfl, fun _ h => by cases h⟩
  | (.ofNat a, .ofNat b) :: xs, (c, d) :: ys, h => by
    unfold sameN at h
    simp only [Bool.and_eq_true] at h
    obtain ⟨h1, h2, h3, h4, h5⟩ := h
    obtain ⟨e, hp⟩ := sameN_eq xs ys h5
    refine ⟨by rw [Nat.eq_of_beq_eq_true h1, Nat.eq_of_beq_eq_true h2, e]; rfl, ?_⟩
    intro y hy
    rcases List.mem_cons.1 hy with rfl | hy
    · exact ⟨Nat.lt_succ_of_le (Nat.le_of_ble_eq_true h3), Nat.lt_succ_of_le (Nat.le_of_ble_eq_true h4)⟩
    · exact hp y hy
  | [], _ :: _, h => by simp [sameN] at h
  | _ :: _, [], h => by unfold sameN at h; split at h <;> simp_all
  | (.negSucc _, _) :: _, _ :: _, h => by simp [sameN] at h
  | (.ofNat _, .negSucc _) :: _, _ :: _, h => by simp [sameN] at h
set_option maxRecDepth 100000 in
theorem labelsN_fin : all2 4 7 (fun a d => Nat.beq a 0 || (List.range (2 ^ d)).all (fun u => match labelsF (a : Int) (d : Int) (strd d : Int) (u : Int) with | some xs => sameN xs (labelsN a d u) | none => false)) = true := by kernel_rfl
theorem labelsN_n {a d u : Nat} (ha : 1 ≤ a) (ha3 : a ≤ 3) (hd : d ≤ 6) (hu : u < 2 ^ d) : labelsF (a : Int) (d : Int) (strd d : Int) (u : Int) = some ((labelsN a d u).map castP) ∧ ∀ y ∈ labelsN a d u, y.1 < 128 ∧ y.2 < 128 := by
  have h := all2_at labelsN_fin (show a < 4 by omega) (show d < 7 by omega)
  rw [beq_ne (show a ≠ 0 by omega)] at h
  simp only [Bool.false_or] at h
  have h2 := List.all_eq_true.1 h u (List.mem_range.2 hu)
  split at h2
  · rename_i xs e1
    obtain ⟨h3, h4⟩ := sameN_eq _ _ h2
    exact ⟨by rw [e1, h3], h4⟩
  · cases h2
def leadsN (a n m v t : Nat) : Bool := Nat.beq n v && (if a = 1 ∨ t = 0 then Nat.beq m t else (blw m n && blw t m))
theorem leadsN_n {a n m v t : Nat} (hn : n < 128) (hm : m < 128) (ht : t < 128) : leadsF (a : Int) (n : Int) (m : Int) (v : Int) (t : Int) = some (leadsN a n m v t) := by
  unfold leadsF leadsN
  by_cases h1 : n = v
  · subst h1
    rw [if_pos rfl, Nat.beq_refl, Bool.true_and]
    by_cases h2 : a = 1 ∨ t = 0
    · rw [if_pos (by omega), if_pos h2]
      congr 1
      cases e : Nat.beq m t with
      | true => have := Nat.eq_of_beq_eq_true e; subst this; simp
      | false => have : m ≠ t := fun h => by subst h; rw [Nat.beq_refl] at e; cases e
                 simp; omega
    · rw [if_neg (by omega), if_neg h2, below_n hm hn (Nat.le_refl _), below_n ht hm (Nat.le_refl _)]
      cases blw m n <;> rfl
  · rw [if_neg (by omega), beq_ne h1]; rfl
set_option maxRecDepth 100000 in
theorem path_mem_fin : all2 128 128 (fun v leaf => Nat.beq v 0 || (Nat.beq leaf 0 || (((1 :: nodesTo 1 leaf).contains v) == blw leaf v))) = true := by kernel_rfl
theorem path_mem {v leaf : Nat} (hv1 : 1 ≤ v) (hv : v < 128) (hl1 : 1 ≤ leaf) (hl : leaf < 128) : v ∈ (1 :: nodesTo 1 leaf) ↔ blw leaf v = true := by
  have h := all2_at path_mem_fin hv hl
  rw [beq_ne (show v ≠ 0 by omega), beq_ne (show leaf ≠ 0 by omega)] at h
  simp only [Bool.false_or, beq_iff_eq] at h
  rw [← h, List.contains_iff_mem]
def partOk (v leaf w : Nat) : Bool := (nodesTo v leaf).any (fun p => blw w (p ^^^ 1)) == !blw leaf w
set_option maxRecDepth 100000 in
theorem part_fin : all2 128 128 (fun v leaf => !blw leaf v || (List.range 128).all (fun w => !blw w v || (Nat.beq w v || ((blw w leaf && !Nat.beq w leaf) || partOk v leaf w)))) = true := by kernel_rfl
theorem part_n {v leaf w : Nat} (hv : v < 128) (hl : leaf < 128) (hw : w < 128) (h1 : blw leaf v = true) (h2 : blw w v = true) (h3 : w ≠ v) (h4 : (blw w leaf && !Nat.beq w leaf) = false) : (nodesTo v leaf).any (fun p => blw w (p ^^^ 1)) = !blw leaf w := by
  have h := all2_at part_fin hv hl
  rw [h1, Bool.not_true, Bool.false_or] at h
  have h5 := List.all_eq_true.1 h w (List.mem_range.2 hw)
  rw [h2, beq_ne h3, h4, Bool.not_true, Bool.false_or, Bool.false_or, Bool.false_or] at h5
  exact eq_of_beq h5
set_option maxRecDepth 100000 in
theorem between_fin : all2 4 128 (fun s v => Nat.beq s 0 || (List.range 128).all (fun w => !(blw w v && !Nat.beq w v) || (!sub3 3 s v w || (nodesTo v w).all (fun q => sub3 3 s v q)))) = true := by kernel_rfl
def pathOk (v w : Nat) : Bool := (nodesTo v w).all (fun q => blw q v && (!Nat.beq q v && (blw w q && (Nat.ble 2 q && (Nat.ble q 127 && (Nat.ble (q ^^^ 1) 127 && (Nat.ble 1 (q ^^^ 1) && (blw (q ^^^ 1) v && !Nat.beq (q ^^^ 1) v))))))))
set_option maxRecDepth 100000 in
theorem pathOk_fin : all2 128 128 (fun v w => !blw w v || pathOk v w) = true := by kernel_rfl
set_option maxRecDepth 100000 in
theorem on_path_fin : all2 128 128 (fun v w => !blw w v || (List.range 128).all (fun q => !(blw q v && (!Nat.beq q v && blw w q)) || (nodesTo v w).contains q)) = true := by kernel_rfl
theorem path_facts {v w q : Nat} (hv : v < 128) (hw : w < 128) (h : blw w v = true) (hq : q ∈ nodesTo v w) : blw q v = true ∧ q ≠ v ∧ blw w q = true ∧ 2 ≤ q ∧ q < 128 ∧ q ^^^ 1 < 128 ∧ 1 ≤ q ^^^ 1 ∧ blw (q ^^^ 1) v = true ∧ q ^^^ 1 ≠ v := by
  have h1 := all2_at pathOk_fin hv hw
  rw [h, Bool.not_true, Bool.false_or] at h1
  have h2 := List.all_eq_true.1 h1 q hq
  simp only [Bool.and_eq_true, Bool.not_eq_true'] at h2
  obtain ⟨a1, a2, a3, a4, a5, a6, a7, a8, a9⟩ := h2
  have hne : ∀ {x y : Nat}, Nat.beq x y = false → x ≠ y := fun e h => by subst h; rw [Nat.beq_refl] at e; cases e
  exact ⟨a1, hne a2, a3, Nat.le_of_ble_eq_true a4, Nat.lt_succ_of_le (Nat.le_of_ble_eq_true a5), Nat.lt_succ_of_le (Nat.le_of_ble_eq_true a6), Nat.le_of_ble_eq_true a7, a8, hne a9⟩
theorem on_path {v w q : Nat} (hv : v < 128) (hw : w < 128) (hq : q < 128) (h : blw w v = true) (h1 : blw q v = true) (h2 : q ≠ v) (h3 : blw w q = true) : q ∈ nodesTo v w := by
  have h4 := all2_at on_path_fin hv hw
  rw [h, Bool.not_true, Bool.false_or] at h4
  have h5 := List.all_eq_true.1 h4 q (List.mem_range.2 hq)
  rw [h1, h3, beq_ne h2] at h5
  simpa using h5
theorem between_n {s v w q : Nat} (hs : 1 ≤ s) (hs3 : s < 4) (hv : v < 128) (hw : w < 128) (h1 : blw w v = true) (h2 : w ≠ v) (h3 : sub3 3 s v w = true) (hq : q ∈ nodesTo v w) : sub3 3 s v q = true := by
  have h := all2_at between_fin hs3 hv
  rw [beq_ne (show s ≠ 0 by omega), Bool.false_or] at h
  have h5 := List.all_eq_true.1 h w (List.mem_range.2 hw)
  rw [h1, beq_ne h2, h3] at h5
  exact List.all_eq_true.1 (by simpa using h5) q hq
end Go.Proofs.Ytafhimeoijmolaa.K
namespace Go.Proofs.Ytafhimeoijmolaa.K
open Go.RowKit  Go.Proofs.YtafhimeoijmolaaW.PrintWords Go.Proofs.YtafhimeoijmolaaW.PrintLast Go.Proofs.YtafhimeoijmolaaW.PrintMore Go.Proofs.Ytafhimeoijmolaa.G
set_option linter.unusedVariables false
set_option linter.unusedSimpArgs false
theorem recv_p {d : Nat} (k s u : Int) (hd : d ≤ 6) : cover_tree_receiver.f k (d : Int) s u = some (decide (0 ≤ u ∧ u < ((2 ^ d : Nat) : Int))) := by
  unfold cover_tree_receiver.f
  rw [size_n _ _ hd]
  by_cases h : u ≥ 0
  · rw [if_pos h]; simp [show (0 : Int) ≤ u from h]
  · rw [if_neg h]; simp; intro h2; exact absurd h2 h
theorem recv_r {d : Nat} (u : Int) (hd : d ≤ 6) : headendref03_receiver.f 100 (d : Int) u = some (decide (0 ≤ u ∧ u < ((2 ^ d : Nat) : Int))) := by
  unfold headendref03_receiver.f
  rw [rReceivers_n hd (by omega)]
  by_cases h : u ≥ 0
  · rw [if_pos h]; simp [show (0 : Int) ≤ u from h]
  · rw [if_neg h]; simp; intro h2; exact absurd h2 h
end Go.Proofs.Ytafhimeoijmolaa.K
namespace Go.Proofs.Ytafhimeoijmolaa.K
open Go.RowKit  Go.Proofs.YtafhimeoijmolaaW.PrintWords Go.Proofs.YtafhimeoijmolaaW.PrintLast Go.Proofs.YtafhimeoijmolaaW.PrintMore Go.Proofs.Ytafhimeoijmolaa.G
set_option linter.unusedVariables false
set_option linter.unusedSimpArgs false
def listF (n : Int) : Option Int → List Int → Bool
  | _, [] => true
  | pr, x :: xs => decide (0 ≤ x ∧ x < n) && ((match pr with | none => true | some p => decide (p < x)) && listF n (some x) xs)
def isListN (d : Nat) (l : List Int) : Bool := listF ((2 ^ d : Nat) : Int) none l
def prevOf (l : List Int) (i : Nat) : Option Int := if i = 0 then none else some (l.getD (i - 1) 0)
theorem prevOf_succ (l : List Int) (i : Nat) : prevOf l (i + 1) = some (l.getD i 0) := by unfold prevOf; rw [if_neg (by omega)]; rfl
theorem list_step (n : Int) (l : List Int) (i : Nat) (hi : i < l.length) : listF n (prevOf l i) (l.drop i) = (decide (0 ≤ l.getD i 0 ∧ l.getD i 0 < n) && ((if i = 0 then true else decide (l.getD (i - 1) 0 < l.getD i 0)) && listF n (prevOf l (i + 1)) (l.drop (i + 1)))) := by
  rw [drop_cons l i hi 0, prevOf_succ]
  unfold prevOf
  by_cases h : i = 0
  · rw [if_pos h, if_pos h]; rfl
  · rw [if_neg h, if_neg h]; rfl
theorem rdn (l : List Int) (i : Nat) : rd l (i : Int) = l.getD i 0 := by unfold rd; rw [Int.toNat_natCast]
theorem list_loop {d : Nat} (hd : d ≤ 6) (a s : Int) (l : List Int) (hl : l.length ≤ 4611686018427387904) : ∀ (n i k : Nat), i + n = l.length → n < k → cover_tree_list.l0 k l l (l.length : Int) (i : Int) a (d : Int) s = some (listF ((2 ^ d : Nat) : Int) (prevOf l i) (l.drop i))
  | 0, i, k, hi, hk => by
    obtain ⟨k, rfl⟩ : ∃ m, k = m + 1 := ⟨k - 1, by omega⟩
    simp only [cover_tree_list.l0]
    rw [if_neg (by omega), List.drop_eq_nil_of_le (by omega)]
    rfl
  | n + 1, i, k, hi, hk => by
    obtain ⟨k, rfl⟩ : ∃ m, k = m + 1 := ⟨k - 1, by omega⟩
    have hw1 : wrap64 ((i : Int) + 1) = ((i + 1 : Nat) : Int) := by unfold wrap64; omega
    rw [list_step _ l i (by omega)]
    simp only [cover_tree_list.l0]
    rw [if_pos (by omega), if_pos (by omega), if_pos (by omega), rdn, recv_p _ _ _ hd, Option.bind_some, hw1]
    by_cases h1 : 0 ≤ l.getD i 0 ∧ l.getD i 0 < ((2 ^ d : Nat) : Int)
    · rw [decide_eq_true h1, if_pos rfl, Bool.true_and]
      by_cases h0 : i = 0
      · rw [if_neg (by omega), if_pos h0, Bool.true_and]
        exact list_loop hd a s l hl n (i + 1) k (by omega) (by omega)
      · have hw2 : wrap64 ((i : Int) - 1) = ((i - 1 : Nat) : Int) := by unfold wrap64; omega
        rw [if_pos (by omega), if_neg h0, hw2, if_pos (by omega), if_pos (by omega), rdn]
        by_cases h2 : l.getD i 0 ≤ l.getD (i - 1) 0
        · rw [if_pos h2, decide_eq_false (by omega)]; rfl
        · rw [if_neg h2, decide_eq_true (by omega), Bool.true_and]
          exact list_loop hd a s l hl n (i + 1) k (by omega) (by omega)
    · rw [decide_eq_false h1, if_neg (by simp)]; rfl
theorem rList_loop {d : Nat} (hd : d ≤ 6) (l : List Int) (hl : l.length ≤ 4611686018427387904) : ∀ (n i k : Nat), i + n = l.length → n + 20 < k → headendref03_IsList.l0 k (d : Int) l (i : Int) = some (listF ((2 ^ d : Nat) : Int) (prevOf l i) (l.drop i))
  | 0, i, k, hi, hk => by
    obtain ⟨k, rfl⟩ : ∃ m, k = m + 1 := ⟨k - 1, by omega⟩
    simp only [headendref03_IsList.l0]
    rw [if_neg (by omega), List.drop_eq_nil_of_le (by omega)]
    rfl
  | n + 1, i, k, hi, hk => by
    obtain ⟨k, rfl⟩ : ∃ m, k = m + 1 := ⟨k - 1, by omega⟩
    have hw1 : wrap64 ((i : Int) + 1) = ((i + 1 : Nat) : Int) := by unfold wrap64; omega
    rw [list_step _ l i (by omega)]
    simp only [headendref03_IsList.l0]
    rw [if_pos (by omega), if_pos (by omega), rdn, rReceivers_n hd (by omega), Option.bind_some, hw1]
    by_cases ha : l.getD i 0 < 0
    · rw [if_pos ha, decide_eq_false (by omega)]; rfl
    rw [if_neg ha]
    by_cases hb : l.getD i 0 ≥ ((2 ^ d : Nat) : Int)
    · rw [if_pos hb, decide_eq_false (by omega)]; rfl
    rw [if_neg hb, decide_eq_true (by omega), Bool.true_and]
    by_cases h0 : i = 0
    · rw [if_neg (by omega), if_pos h0, Bool.true_and]
      exact rList_loop hd l hl n (i + 1) k (by omega) (by omega)
    · have hw2 : wrap64 ((i : Int) - 1) = ((i - 1 : Nat) : Int) := by unfold wrap64; omega
      rw [if_pos (by omega), if_neg h0, hw2, if_pos (by omega), if_pos (by omega), rdn]
      by_cases h2 : l.getD i 0 ≤ l.getD (i - 1) 0
      · rw [if_pos h2, decide_eq_false (by omega)]; rfl
      · rw [if_neg h2, decide_eq_true (by omega), Bool.true_and]
        exact rList_loop hd l hl n (i + 1) k (by omega) (by omega)
theorem list_n {d : Nat} (hd : d ≤ 6) (a s : Int) (l : List Int) (hl : l.length ≤ 4611686018427387904) : cover_tree_list.f (l.length + 1) a (d : Int) s l = some (isListN d l) := by
  have h := list_loop hd a s l hl l.length 0 (l.length + 1) (by omega) (by omega)
  exact h
theorem rList_n {d k : Nat} (hd : d ≤ 6) (l : List Int) (hl : l.length ≤ 4611686018427387904) (hk : l.length + 20 < k) : headendref03_IsList.f k (d : Int) l = some (isListN d l) := by
  have h := rList_loop hd l hl l.length 0 k (by omega) hk
  exact h
theorem listF_mem {n : Int} : ∀ {pr : Option Int} {l : List Int}, listF n pr l = true → ∀ u ∈ l, 0 ≤ u ∧ u < n
  | _, [], _, u, hu => by cases hu
  | pr, x :: xs, h, u, hu => by
    unfold listF at h
    simp only [Bool.and_eq_true, decide_eq_true_eq] at h
    rcases List.mem_cons.1 hu with rfl | hu
    · exact h.1
    · exact listF_mem h.2.2 u hu
def idxF {α : Type} (p : α → Bool) : Nat → List α → Int
  | _, [] => -1
  | i, x :: xs => if p x = true then (i : Int) else idxF p (i + 1) xs
theorem idxF_any {α : Type} (p : α → Bool) : ∀ (l : List α) (i : Nat), decide (idxF p i l ≥ 0) = l.any p
  | [], i => rfl
  | x :: xs, i => by
    unfold idxF
    cases h : p x
    · rw [if_neg (by simp), idxF_any p xs (i + 1)]; simp [h]
    · rw [if_pos rfl]; simp [h]
theorem idxF_found {α : Type} (p : α → Bool) (z : α) : ∀ (l : List α) (i : Nat), l.any p = true → ∃ j, j < l.length ∧ idxF p i l = ((i + j : Nat) : Int) ∧ p (l.getD j z) = true
  | [], i, h => by simp at h
  | x :: xs, i, h => by
    unfold idxF
    cases hx : p x
    · simp only [List.any_cons, hx, Bool.false_or] at h
      obtain ⟨j, h1, h2, h3⟩ := idxF_found p z xs (i + 1) h
      exact ⟨j + 1, by simp; omega, by rw [if_neg (by simp), h2]; omega, by simpa using h3⟩
    · exact ⟨0, by simp, by rw [if_pos rfl]; simp, by simpa using hx⟩
theorem known_loop (a0 a1 a2 a3 a4 a5 v t : Int) (p : S47 → Bool) (l : List S47) (hl : l.length ≤ 1000) (hp : ∀ y ∈ l, headendref03_leads.f 100 a0 a1 a2 a3 a4 a5 y.f0 y.f1 v t = some (p y)) : ∀ (n i k : Nat), i + n = l.length → n + 100 < k → headendref03_Known.l0 k l (i : Int) a0 a1 a2 a3 a4 a5 v t = some (idxF p i (l.drop i))
  | 0, i, k, hi, hk => by
    obtain ⟨k, rfl⟩ : ∃ m, k = m + 1 := ⟨k - 1, by omega⟩
    simp only [headendref03_Known.l0]
    rw [if_neg (by omega), List.drop_eq_nil_of_le (by omega)]
    rfl
  | n + 1, i, k, hi, hk => by
    obtain ⟨k, rfl⟩ : ∃ m, k = m + 1 := ⟨k - 1, by omega⟩
    have hw1 : wrap64 ((i : Int) + 1) = ((i + 1 : Nat) : Int) := by unfold wrap64; omega
    have hr : rd_T47 l (i : Int) = l.getD i z47 := by unfold rd_T47; rw [Int.toNat_natCast]
    have hm : l.getD i z47 ∈ l := by have : i < l.length := by omega
                                     simp [this]
    simp only [headendref03_Known.l0]
    rw [if_pos (by omega), if_pos (by omega), hr, up (fun k => headendref03_leads.mono _ _ _ _ _ _ _ _ _ _ k) (hp _ hm) (show 100 ≤ k by omega), Option.bind_some, hw1, drop_cons l i (by omega) z47]
    unfold idxF
    rw [known_loop a0 a1 a2 a3 a4 a5 v t p l hl hp n (i + 1) k (by omega) (by omega)]
    split <;> rfl
theorem knowF_any (a v t : Int) (p : Int × Int → Bool) : ∀ (xs : List (Int × Int)), (∀ x ∈ xs, leadsF a x.1 x.2 v t = some (p x)) → knowF a v t xs = some (xs.any p)
  | [], _ => rfl
  | x :: xs, h => by
    simp only [knowF, h x List.mem_cons_self, Option.bind_some, List.any_cons]
    cases p x
    · simpa using knowF_any a v t p xs (fun y hy => h y (List.mem_cons_of_mem _ hy))
    · simp
def workAt (t m : Int) : Option (Int × Int) := if m = 0 then some (0, 0) else (cover_node_level.f t).bind fun p => (cover_node_level.f m).bind fun q => some (wrap64 (wrap64 (p - q) + 1), 0)
theorem workF_none (a v t : Int) (p : Int × Int → Bool) : ∀ (xs : List (Int × Int)), (∀ x ∈ xs, leadsF a x.1 x.2 v t = some (p x)) → xs.any p = false → workF a v t xs = some (0, 6)
  | [], _, _ => rfl
  | x :: xs, h, hn => by
    simp only [List.any_cons, Bool.or_eq_false_iff] at hn
    simp only [workF, h x List.mem_cons_self, hn.1, Option.bind_some, Bool.false_eq_true, if_false]
    exact workF_none a v t p xs (fun y hy => h y (List.mem_cons_of_mem _ hy)) hn.2
theorem workF_some (a v t : Int) (p : Int × Int → Bool) (z : Int × Int) : ∀ (xs : List (Int × Int)) (i : Nat), (∀ x ∈ xs, leadsF a x.1 x.2 v t = some (p x)) → ∀ j, j < xs.length → idxF p i xs = ((i + j : Nat) : Int) → workF a v t xs = workAt t (xs.getD j z).2
  | [], i, _, j, hj, _ => by simp at hj
  | x :: xs, i, h, j, hj, e => by
    simp only [workF, h x List.mem_cons_self, Option.bind_some]
    unfold idxF at e
    cases hx : p x
    · rw [hx, if_neg (by simp)] at e
      rw [if_neg (by simp)]
      cases j with
      | zero =>
        exfalso
        have h2 : ∀ (l : List (Int × Int)) (i : Nat), idxF p i l = -1 ∨ (i : Int) ≤ idxF p i l := by
          intro l
          induction l with
          | nil => exact fun i => .inl rfl
          | cons y ys ih =>
            intro i
            unfold idxF
            split
            · exact .inr (by omega)
            · rcases ih (i + 1) with h | h
              · exact .inl h
              · exact .inr (by omega)
        rcases h2 xs (i + 1) with h3 | h3 <;> omega
      | succ j =>
        have := workF_some a v t p z xs (i + 1) (fun y hy => h y (List.mem_cons_of_mem _ hy)) j (by simpa using hj) (by rw [e]; omega)
        rw [this]
        simp
    · rw [hx, if_pos rfl] at e
      rw [if_pos rfl]
      have : j = 0 := by omega
      subst this
      rfl
theorem idxF_map {α β : Type} (f : α → β) (p : β → Bool) : ∀ (l : List α) (i : Nat), idxF p i (l.map f) = idxF (fun x => p (f x)) i l
  | [], i => rfl
  | x :: xs, i => by simp only [List.map_cons, idxF, idxF_map f p xs (i + 1)]
end Go.Proofs.Ytafhimeoijmolaa.K
namespace Go.Proofs.Ytafhimeoijmolaa.K
open Go.RowKit  Go.Proofs.YtafhimeoijmolaaW.PrintWords Go.Proofs.YtafhimeoijmolaaW.PrintLast Go.Proofs.YtafhimeoijmolaaW.PrintMore Go.Proofs.Ytafhimeoijmolaa.G
set_option linter.unusedVariables false
set_option linter.unusedSimpArgs false
theorem subN_iff {a d v w : Nat} : subI a d (v : Int) (w : Int) = true ↔ 1 ≤ v ∧ v < 2 ^ (d + 1) ∧ (if a = 1 then w = 0 else if w = 0 then v = 1 else (1 ≤ w ∧ w < 2 ^ (d + 1) ∧ w ≠ v ∧ blw w v = true ∧ sub3 a (strd d) v w = true)) := by
  have e1 : (1 : Int) ≤ (v : Int) ↔ 1 ≤ v := by omega
  have e2 : (v : Int) < 2 ^ (d + 1) ↔ v < 2 ^ (d + 1) := by rw [int_pow]; exact Int.ofNat_lt
  have e3 : (w : Int) < 2 ^ (d + 1) ↔ w < 2 ^ (d + 1) := by rw [int_pow]; exact Int.ofNat_lt
  unfold subI
  simp only [Bool.and_eq_true, decide_eq_true_eq, Int.toNat_natCast, e1, e2]
  by_cases h1 : a = 1
  · simp only [h1, if_true, decide_eq_true_eq]
    constructor
    · rintro ⟨p, q, r⟩; exact ⟨p, q, by omega⟩
    · rintro ⟨p, q, r⟩; exact ⟨p, q, by omega⟩
  · simp only [if_neg h1]
    by_cases h2 : w = 0
    · have h2' : (w : Int) = 0 := by omega
      simp only [if_pos h2, if_pos h2', decide_eq_true_eq]
      constructor
      · rintro ⟨p, q, r⟩; exact ⟨p, q, by omega⟩
      · rintro ⟨p, q, r⟩; exact ⟨p, q, by omega⟩
    · have h2' : ¬ (w : Int) = 0 := by omega
      simp only [if_neg h2, if_neg h2', Bool.and_eq_true, decide_eq_true_eq, Bool.not_eq_true', decide_eq_false_iff_not, e3]
      constructor
      · rintro ⟨p, q, r1, r2, r3, r4, r5⟩; exact ⟨p, q, by omega, r2, by omega, r4, r5⟩
      · rintro ⟨p, q, r1, r2, r3, r4, r5⟩; exact ⟨p, q, by omega, r2, by omega, r4, r5⟩
set_option maxRecDepth 100000 in
theorem deep_fin : all2 128 128 (fun t leaf => !blw t leaf || (Nat.beq t leaf || Nat.ble (2 * leaf) t)) = true := by kernel_rfl
theorem deep_n {t leaf : Nat} (ht : t < 128) (hl : leaf < 128) (h : blw t leaf = true) : t = leaf ∨ 2 * leaf ≤ t := by
  have h1 := all2_at deep_fin ht hl
  rw [h] at h1
  simp only [Bool.not_true, Bool.false_or, Bool.or_eq_true] at h1
  rcases h1 with h1 | h1
  · exact .inl (Nat.eq_of_beq_eq_true h1)
  · exact .inr (Nat.le_of_ble_eq_true h1)
theorem leaf_lt {d u : Nat} (hd : d ≤ 6) (hu : u < 2 ^ d) : 2 ^ d + u < 128 ∧ 1 ≤ 2 ^ d + u ∧ 2 ^ d + u < 2 ^ (d + 1) := by
  have h1 := pow_lt128 hd
  have h2 : 2 ^ (d + 1) = 2 * 2 ^ d := by rw [Nat.pow_succ]; omega
  have h3 : 1 ≤ 2 ^ d := Nat.one_le_two_pow
  omega
theorem not_deep {d u t : Nat} (hd : d ≤ 6) (hu : u < 2 ^ d) (ht : t < 2 ^ (d + 1)) : (blw t (2 ^ d + u) && !Nat.beq t (2 ^ d + u)) = false := by
  have hp := pow_lt128 hd
  obtain ⟨h1, _, h3⟩ := leaf_lt hd hu
  have h2 : 2 ^ (d + 1) = 2 * 2 ^ d := by rw [Nat.pow_succ]; omega
  cases hb : blw t (2 ^ d + u) with
  | false => rfl
  | true =>
    rcases deep_n (by omega) h1 hb with h | h
    · rw [h, Nat.beq_refl]; rfl
    · omega
theorem any_iff {α : Type} {l : List α} {p : α → Bool} {b : Bool} (h : (∃ x ∈ l, p x = true) ↔ b = true) : l.any p = b := by
  cases b with
  | true => exact List.any_eq_true.2 (h.2 rfl)
  | false =>
    rw [List.any_eq_false]
    intro x hx hp
    exact absurd (h.1 ⟨x, hx, hp⟩) (by simp)
theorem leads_member {a d u v t : Nat} (ha : 1 ≤ a) (ha3 : a ≤ 3) (hd : d ≤ 6) (hu : u < 2 ^ d) (hs : subI a d (v : Int) (t : Int) = true) : (labelsN a d u).any (fun x => leadsN a x.1 x.2 v t) = memN d v t u := by
  obtain ⟨hv1, hv2, hc⟩ := subN_iff.1 hs
  have hp := pow_lt128 hd
  obtain ⟨hl1, hl2, hl3⟩ := leaf_lt hd hu
  have hv : v < 128 := by omega
  by_cases h1 : a = 1
  · rw [if_pos h1] at hc
    subst h1
    subst hc
    unfold labelsN memN
    rw [if_pos rfl, blw_zero, Bool.not_false, Bool.and_true]
    refine any_iff ?_
    rw [← path_mem hv1 hv hl2 hl1]
    constructor
    · rintro ⟨x, hx, h⟩
      obtain ⟨q, hq, rfl⟩ := List.mem_map.1 hx
      unfold leadsN at h
      simp only [Bool.and_eq_true] at h
      rw [← Nat.eq_of_beq_eq_true h.1]; exact hq
    · intro h
      exact ⟨(v, 0), List.mem_map.2 ⟨v, h, rfl⟩, by unfold leadsN; simp⟩
  · rw [if_neg h1] at hc
    by_cases h2 : t = 0
    · rw [if_pos h2] at hc
      subst h2
      subst hc
      unfold labelsN memN
      have hb : blw (2 ^ d + u) 1 = true := (path_mem (Nat.le_refl _) (by omega) hl2 hl1).1 List.mem_cons_self
      rw [if_neg h1, blw_zero, hb, List.any_cons]
      unfold leadsN
      simp
    · rw [if_neg h2] at hc
      obtain ⟨ht1, ht2, hne, hb, hs3⟩ := hc
      have ht : t < 128 := by omega
      unfold labelsN memN
      rw [if_neg h1, List.any_cons]
      have h0 : leadsN a 1 0 v t = false := by
        unfold leadsN
        rw [if_neg (by omega)]
        have : blw 0 1 = false := rfl
        rw [this]; simp
      rw [show leadsN a ((1, 0) : Nat × Nat).1 ((1, 0) : Nat × Nat).2 v t = false from h0, Bool.false_or]
      refine any_iff ?_
      rw [Bool.and_eq_true]
      constructor
      · rintro ⟨x, hx, h⟩
        obtain ⟨v', hv', hx⟩ := List.mem_flatMap.1 hx
        obtain ⟨p, hp', hx⟩ := List.mem_filterMap.1 hx
        split at hx
        · obtain rfl := (Option.some.inj hx).symm
          unfold leadsN at h
          rw [if_neg (by omega)] at h
          simp only [Bool.and_eq_true] at h
          obtain rfl := Nat.eq_of_beq_eq_true h.1
          have hbl := (path_mem hv1 hv hl2 hl1).1 hv'
          refine ⟨hbl, ?_⟩
          rw [← part_n hv hl1 ht hbl hb hne (not_deep hd hu ht2), List.any_eq_true]
          exact ⟨p, hp', h.2.2⟩
        · cases hx
      · rintro ⟨hbl, hnb⟩
        rw [← part_n hv hl1 ht hbl hb hne (not_deep hd hu ht2), List.any_eq_true] at hnb
        obtain ⟨p, hp', hpt⟩ := hnb
        obtain ⟨f1, f2, f3, f4, f5, f6, f7, f8, f9⟩ := path_facts hv hl1 hbl hp'
        have hle := (blw_parts hpt).2.1
        have hsub : subI a d (v : Int) ((p ^^^ 1 : Nat) : Int) = true := by
          rw [subN_iff, if_neg h1, if_neg (by omega)]
          refine ⟨hv1, hv2, f7, by omega, f9, f8, ?_⟩
          by_cases h3 : a = 2
          · subst h3; unfold sub3; simp
          · obtain rfl : a = 3 := by omega
            exact between_n (strd_pos d) (by have := strd_le d; omega) hv ht hb hne hs3 (on_path hv ht f6 hb f8 f9 hpt)
        refine ⟨(v, p ^^^ 1), List.mem_flatMap.2 ⟨v, (path_mem hv1 hv hl2 hl1).2 hbl, List.mem_filterMap.2 ⟨p, hp', by rw [if_pos hsub]⟩⟩, ?_⟩
        unfold leadsN
        rw [if_neg (by omega), Nat.beq_refl, f8, hpt]; rfl
end Go.Proofs.Ytafhimeoijmolaa.K
namespace Go.Proofs.Ytafhimeoijmolaa.K
open Go.RowKit  Go.Proofs.YtafhimeoijmolaaW.PrintWords Go.Proofs.YtafhimeoijmolaaW.PrintLast Go.Proofs.YtafhimeoijmolaaW.PrintMore Go.Proofs.Ytafhimeoijmolaa.G
set_option linter.unusedVariables false
set_option linter.unusedSimpArgs false
attribute [local go_sem high] eqK eqK0
theorem findF_total {a d : Nat} {v t : Int} (ha : 1 ≤ a) (ha3 : a ≤ 3) (hd : d ≤ 6) (hs : subI a d v t = true) : ∀ (ls : List S83), (∀ l ∈ ls, I64 l.f1) → ∃ r, findF (a : Int) v t ls = some r
  | [], _ => ⟨_, rfl⟩
  | l :: ls, h => by
    obtain ⟨b, h1, h2, h3⟩ := leads_n (n := l.f0) ha ha3 hd hs (h l (List.mem_cons_self ..))
    simp only [findF, h1, Option.bind_some]
    cases b with
    | false => simpa using findF_total ha ha3 hd hs ls (fun y hy => h y (List.mem_cons_of_mem _ hy))
    | true =>
      rw [if_pos rfl]
      by_cases hx : (a : Int) = 1 ∨ t = 0
      · rw [if_pos hx]; exact ⟨_, rfl⟩
      · rw [if_neg hx]
        obtain ⟨p, q, e1, e2, hp, hq, hb⟩ := h3 rfl (fun e => hx (.inl e)) (fun e => hx (.inr e))
        rw [e1, e2, path_n hp hq hb]
        exact ⟨_, rfl⟩
theorem labOK_n {a d : Nat} {v t : Int} (ha : 1 ≤ a) (ha3 : a ≤ 3) (hd : d ≤ 6) (hs : subI a d v t = true) {ls : List S83} (h : ∀ l ∈ ls, KOK l.f2 ∧ I64 l.f1) : LabOK (a : Int) (d : Int) 0 0 0 0 v t ls := by
  refine ⟨fun l hl => ?_, fun l hl => (h l hl).1⟩
  obtain ⟨b, h1, h2, h3⟩ := leads_n (n := l.f0) ha ha3 hd hs (h l hl).2
  refine ⟨b, h1, h2, fun e e1 e2 => ?_⟩
  obtain ⟨p, q, ep, eq, hp, hq, hb⟩ := h3 e e1 e2
  rw [ep, eq, path_n hp hq hb]
  refine ⟨⟨20, _, rPath_n hp hq hb (Nat.le_refl _), rfl, ?_, by simp⟩⟩
  intro y hy
  obtain ⟨z, _, rfl⟩ := List.mem_map.1 hy
  exact Int.natCast_nonneg z
structure Tw (W : World) (ls : List S83) (its : List S111) (ps : List S74) (b1 b3 b4 b5 : Bool) (g7 g8 : Nat) (A1 A2 A3 : Option Addr) (c1 c2 c3 : Nat) (w : World) : Prop where
  below : Below W.heap.size W w
  s : b1 = true → Kd.R k83 83 w W.heap.size (fun _ => True) (.slice A1 ls.length c1) ls
  i : b3 = true → Kd.R k111 111 w W.heap.size (fun _ => True) (.slice A2 its.length c2) its
  p : b3 = true → Kd.R k74 74 w W.heap.size (fun _ => True) (.slice A3 ps.length c3) ps
  o : b4 = true → W.heap.size ≤ g7 ∧ w.heap[g7]? = some (.cells (sc 0 none 0 0 0 0) 76 (0, 0))
  h : b5 = true → W.heap.size ≤ g8 ∧ w.heap[g8]? = some (.cells (hc (.slice none 0 0) 0 (.slice none 0 0) z26 z26) 28 (0, 0))
section
variable {W w w' : World} {ls : List S83} {its : List S111} {ps : List S74} {b1 b3 b4 b5 : Bool} {g7 g8 : Nat} {A1 A2 A3 : Option Addr} {c1 c2 c3 : Nat}
theorem Tw.on (T : Tw W ls its ps b1 b3 b4 b5 g7 g8 A1 A2 A3 c1 c2 c3 w) (hb : Below w.heap.size w w') : Tw W ls its ps b1 b3 b4 b5 g7 g8 A1 A2 A3 c1 c2 c3 w' :=
  ⟨T.below.trans (hb.mono T.below.size), fun e => Kd.R_below (T.s e) hb, fun e => Kd.R_below (T.i e) hb, fun e => Kd.R_below (T.p e) hb, fun e => ⟨(T.o e).1, blk_to (T.o e).2 hb⟩, fun e => ⟨(T.h e).1, blk_to (T.h e).2 hb⟩⟩
theorem Tw.opq (T : Tw W ls its ps b1 b3 b4 b5 g7 g8 A1 A2 A3 c1 c2 c3 w) {C : World → Prop} (h : ∀ w, Tw W ls its ps b1 b3 b4 b5 g7 g8 A1 A2 A3 c1 c2 c3 w → C w) : C w := h w T
theorem Tw.so (T : Tw W ls its ps b1 b3 b4 b5 g7 g8 A1 A2 A3 c1 c2 c3 w) : SO W none w := ⟨T.below.size, fun j hj _ => T.below.block j hj⟩
structure TwE (W : World) (ls : List S83) (its : List S111) (ps : List S74) (s : Array Value) (h : Array Value) (g7 g8 : Nat) (A1 A2 A3 : Option Addr) (c1 c2 c3 : Nat) (w : World) : Prop where
  below : Below W.heap.size W w
  rs : Kd.R k83 83 w W.heap.size (fun _ => True) (.slice A1 ls.length c1) ls
  ri : Kd.R k111 111 w W.heap.size (fun _ => True) (.slice A2 its.length c2) its
  rp : Kd.R k74 74 w W.heap.size (fun _ => True) (.slice A3 ps.length c3) ps
  bo : w.heap[g7]? = some (.cells s 76 (0, 0))
  bh : w.heap[g8]? = some (.cells h 28 (0, 0))
  b7 : W.heap.size ≤ g7
  b8 : W.heap.size ≤ g8
theorem Tw.ne (T : Tw W ls its ps true true true true g7 g8 A1 A2 A3 c1 c2 c3 w) : g8 ≠ g7 := by
  intro e
  have h1 := (T.o rfl).2
  have h2 := (T.h rfl).2
  rw [e, h1] at h2
  cases h2
theorem Tw.fin (T : Tw W ls its ps true true true true g7 g8 A1 A2 A3 c1 c2 c3 w) {wa wb : World} {s h : Array Value} (P1 : Put1 w wa g7 s 76) (P2 : Put1 wa wb g8 h 28) : TwE W ls its ps s h g7 g8 A1 A2 A3 c1 c2 c3 wb := by
  obtain ⟨h7, o7⟩ := T.o rfl
  obtain ⟨h8, o8⟩ := T.h rfl
  have hne := T.ne
  have o8a := P1.blk o8 hne
  refine ⟨P2.below (P1.below T.below h7) h8, ?_, ?_, ?_, P2.blk P1.at_ (Ne.symm hne), P2.at_, h7, h8⟩
  · have r1 := Kd.R_step (w1 := wa) (Kd.R_types (T.s rfl) o7 (by intro q hq; have : q = 83 := (by have e : k83.E = [] := rfl; rw [e] at hq; simpa using hq); subst this; decide)) (fun j hj _ => P1.oth j hj.2)
    exact Kd.R_mono (Kd.R_step (w1 := wb) (Kd.R_types (Kd.R_mono r1 (fun _ _ => trivial)) o8a (by intro q hq; have : q = 83 := (by have e : k83.E = [] := rfl; rw [e] at hq; simpa using hq); subst this; decide)) (fun j hj _ => P2.oth j hj.2)) (fun _ _ => trivial)
  · have r1 := Kd.R_step (w1 := wa) (Kd.R_types (T.i rfl) o7 (by intro q hq; have : q = 111 := (by have e : k111.E = [] := rfl; rw [e] at hq; simpa using hq); subst this; decide)) (fun j hj _ => P1.oth j hj.2)
    exact Kd.R_mono (Kd.R_step (w1 := wb) (Kd.R_types (Kd.R_mono r1 (fun _ _ => trivial)) o8a (by intro q hq; have : q = 111 := (by have e : k111.E = [] := rfl; rw [e] at hq; simpa using hq); subst this; decide)) (fun j hj _ => P2.oth j hj.2)) (fun _ _ => trivial)
  · have r1 := Kd.R_step (w1 := wa) (Kd.R_types (T.p rfl) o7 (by intro q hq; have : q = 74 := (by have e : k74.E = [] := rfl; rw [e] at hq; simpa using hq); subst this; decide)) (fun j hj _ => P1.oth j hj.2)
    exact Kd.R_mono (Kd.R_step (w1 := wb) (Kd.R_types (Kd.R_mono r1 (fun _ _ => trivial)) o8a (by intro q hq; have : q = 74 := (by have e : k74.E = [] := rfl; rw [e] at hq; simpa using hq); subst this; decide)) (fun j hj _ => P2.oth j hj.2)) (fun _ _ => trivial)
end
end Go.Proofs.Ytafhimeoijmolaa.K
