/- Texts of this claim, one behind the other, as far as they are used: KI, KO, KU, KW, N7, N4, N5, N8, N2. -/
import Derived.Test.YtafhimeoijmolaaCoverSecretsM3
import Derived.Test.YtafhimeoijmolaaCoverSecretsM4
import Derived.Test.YtafhimeoijmolaaCoverSecretsM5
import Derived.Test.YtafhimeoijmolaaCoverSecretsM8
import Derived.Test.YtafhimeoijmolaaCoverSecretsM11
import Derived.Test.YtafhimeoijmolaaCoverSecretsM12
import Derived.Test.YtafhimeoijmolaaCoverSecretsM13
namespace Go.Proofs.Ytafhimeoijmolaa.K
open Go.RowKit  Go.Proofs.YtafhimeoijmolaaW.PrintWords Go.Proofs.YtafhimeoijmolaaW.PrintLast Go.Proofs.YtafhimeoijmolaaW.PrintMore Go.Proofs.Ytafhimeoijmolaa.G
set_option linter.unusedVariables false
set_option linter.unusedSimpArgs false
def stepK (k : S26) (x : Int) : S26 := derK k (if Int.tmod x 2 = 1 then 32 else 31) 0
theorem stepK_ok (k : S26) (x : Int) : KOK (stepK k x) := derK_ok _ _ _
theorem wok0 : WOK 0 := by unfold WOK; omega
set_option maxHeartbeats 4000000 in
set_option maxRecDepth 100000 in
theorem step_calls (k : S26) (hk : KOK k) (x : Int) (hx : 0 ≤ x) (w : World) :
    Calls Try.prog 169 #[kv k, .int .i64 x] w fun e w' => e = .returned (kv (stepK k x)) ∧ Below w.heap.size w w' := by
  obtain ⟨W0, hW0⟩ : ∃ W0, ((w.alloc (.cells (kc k) 26)).alloc (.cells (kc z26) 26)) = W0 := ⟨_, rfl⟩
  have B0 := Aside0.mk (show W0.heap[w.heap.size]? = some (.cells (kc k) 26 (0, 0)) by rw [← hW0]; exact (blk_alloc (newAt rfl) _))
  have B1 := Aside0.mk (show W0.heap[w.heap.size + 1]? = some (.cells (kc z26) 26 (0, 0)) by rw [← hW0]; exact (newAt (by simp)))
  have BB := Aside0.mk (show Below w.heap.size w W0 by rw [← hW0]; exact (((Below.refl _ w).alloc (Nat.le_refl _) _).alloc (by simp) _))
  have BBs := Aside0.mk (show w.heap.size + 2 = W0.heap.size by rw [← hW0]; simp)
  have HW := Aside0.mk hW0
  clear hW0
  have HK := Aside0.mk hk
  have HX := Aside0.mk hx
  obtain ⟨R, hR⟩ : ∃ R, R = stepK k x := ⟨_, rfl⟩
  rw [← hR]
  have HR := Aside0.mk hR
  clear hk hR
  by_cases h0 : Int.tmod x 2 = 0
  · have b0 : (Int.tmod x 2 == 0) = true := beq_iff_eq.mpr h0
    have b1 : (x % 2 == 0) = true := by rw [Int.tmod_eq_emod_of_nonneg hx] at h0; exact beq_iff_eq.mpr h0
    have E1 := Aside0.mk (show R = derK k 31 0 by rw [HR.out]; unfold stepK; rw [if_neg (by omega)])
    clear h0 HR
    go_enter Try.func169, Try.ntmps169
    go_wp2_with fail
    go_at_call 89
    refine (rDerive_calls k 31 0 HK.out (by omega) wok0 _).mono ?_
    have e0 := HW.out
    rintro e1 w1 ⟨rfl, hb1⟩
    have hb1' : Below W0.heap.size W0 w1 := by rw [← e0]; exact hb1
    have C1 := Aside0.mk (blk_to B1.out hb1')
    have CB := Aside0.mk (BB.out.trans (hb1'.mono BB.out.size))
    obtain ⟨K, hK⟩ : ∃ K, K = derK k 31 0 := ⟨_, rfl⟩
    rw [← hK]
    have HK1 := Aside0.mk hK
    clear hb1 hb1' e0 hK
    go_wp2_with (first | ((with_reducible refine stR rfl rfl C1.out (kc K) ?_ ?_ ?_ ?_ ?_ ?_); rfl; rfl; exact row26; rfl; rfl; intro W2 P1))
    refine bodyPost_ret (results_cell_row rfl _ _ _ 26 _ (0, 0) _ rfl P1.at_ Try.underlying26 rfl (by kernel_rfl)) rfl ?_
    exact ⟨by rw [E1.out, HK1.out], P1.below CB.out (by omega)⟩
  · have b0 : (Int.tmod x 2 == 0) = false := beq_eq_false_iff_ne.mpr h0
    have b1 : (x % 2 == 0) = false := by rw [Int.tmod_eq_emod_of_nonneg hx] at h0; exact beq_eq_false_iff_ne.mpr h0
    have E1 := Aside0.mk (show R = derK k 32 0 by rw [HR.out]; unfold stepK; rw [if_pos (by rw [Int.tmod_eq_emod_of_nonneg hx] at *; omega)])
    clear h0 HR
    go_enter Try.func169, Try.ntmps169
    go_wp2_with fail
    go_at_call 89
    refine (rDerive_calls k 32 0 HK.out (by omega) wok0 _).mono ?_
    have e0 := HW.out
    rintro e1 w1 ⟨rfl, hb1⟩
    have hb1' : Below W0.heap.size W0 w1 := by rw [← e0]; exact hb1
    have C1 := Aside0.mk (blk_to B1.out hb1')
    have CB := Aside0.mk (BB.out.trans (hb1'.mono BB.out.size))
    obtain ⟨K, hK⟩ : ∃ K, K = derK k 32 0 := ⟨_, rfl⟩
    rw [← hK]
    have HK1 := Aside0.mk hK
    clear hb1 hb1' e0 hK
    go_wp2_with (first | ((with_reducible refine stR rfl rfl C1.out (kc K) ?_ ?_ ?_ ?_ ?_ ?_); rfl; rfl; exact row26; rfl; rfl; intro W2 P1))
    refine bodyPost_ret (results_cell_row rfl _ _ _ 26 _ (0, 0) _ rfl P1.at_ Try.underlying26 rfl (by kernel_rfl)) rfl ?_
    exact ⟨by rw [E1.out, HK1.out], P1.below CB.out (by omega)⟩
theorem descK_step (k : S26) (xs : List Int) (x : Int) : descK k (xs ++ [x]) = stepK (descK k xs) x := by unfold descK stepK; rw [List.foldl_append]; rfl
set_option maxHeartbeats 4000000 in
set_option maxRecDepth 100000 in
theorem down_calls (k : S26) (hk : KOK k) (f t : Int) (p : List Int) (hpos : ∀ x ∈ p, 0 ≤ x) (h1 : 1 ≤ p.length) (kk : Nat) (hp : headendref03_Path.f kk f t = some p) (w : World) :
    Calls Try.prog 148 #[kv k, .int .i64 f, .int .i64 t] w fun e w' => e = .returned (kv (descK k (p.drop 1))) ∧ Below w.heap.size w w' := by
  obtain ⟨W0, hW0⟩ : ∃ W0, ((w.alloc (.cells (kc k) 26)).alloc (.cells (kc z26) 26)) = W0 := ⟨_, rfl⟩
  have B0 := Aside0.mk (show W0.heap[w.heap.size]? = some (.cells (kc k) 26 (0, 0)) by rw [← hW0]; exact (blk_alloc (newAt rfl) _))
  have B1 := Aside0.mk (show W0.heap[w.heap.size + 1]? = some (.cells (kc z26) 26 (0, 0)) by rw [← hW0]; exact (newAt (by simp)))
  have BB := Aside0.mk (show Below w.heap.size w W0 by rw [← hW0]; exact (((Below.refl _ w).alloc (Nat.le_refl _) _).alloc (by simp) _))
  have BBs := Aside0.mk (show w.heap.size + 2 = W0.heap.size by rw [← hW0]; simp)
  have HW := Aside0.mk hW0
  clear hW0
  have HK := Aside0.mk hk; have HP := Aside0.mk hpos
  have e0 := HW.out
  obtain ⟨R, hR⟩ : ∃ R, R = descK k (p.drop 1) := ⟨_, rfl⟩
  rw [← hR]
  have HR := Aside0.mk hR
  clear hR
  go_enter Try.func148, Try.ntmps148
  go_wp2_with fail
  go_at_call 114
  refine (headendref03_Path.calls kk f t p _ hp).mono ?_
  rintro e1 w1 ⟨v1, rfl, hr1, hb1⟩
  have hb1' : Below W0.heap.size W0 w1 := by rw [← e0]; exact hb1
  have hr1' : Kd.R (Kd.int .i64) 3 w1 W0.heap.size (fun _ => True) v1 p := by rw [← e0]; exact hr1
  have C0 := Aside0.mk (blk_to B0.out hb1'); have C1 := Aside0.mk (blk_to B1.out hb1')
  have CB := Aside0.mk (BB.out.trans (hb1'.mono BB.out.size))
  have CR := Aside0.mk hr1'
  obtain ⟨A, c, rfl, hlc, hC⟩ := Kd.R_reads hr1'
  have hlen : p.length ≤ 9223372036854775807 := hC.2.1
  have HW0 := BBs.out
  clear hb1 hb1' hr1 hr1' e0 hpos hk hp hlc hC B0 B1 BB BBs HW
  go_wp2
  go_loopg [8] p.length (fun kq v8 w' => ∃ (i : Nat), v8 = .int .i64 (i : Int) ∧ Aside0 ((1 ≤ i ∧ i ≤ p.length) ∧ i + kq = p.length + 1) ∧ Aside0 (w'.heap[w.heap.size]? = some (.cells (kc (descK k ((p.take i).drop 1))) 26 (0, 0))) ∧ Aside0 (KOK (descK k ((p.take i).drop 1))) ∧ Aside0 (w'.heap[w.heap.size + 1]? = some (.cells (kc z26) 26 (0, 0))) ∧ Aside0 (Kd.R (Kd.int .i64) 3 w' W0.heap.size (fun _ => True) (.slice A p.length c) p) ∧ Aside0 (Below w.heap.size w w'))
  case atStart =>
    refine ⟨1, rfl, ⟨⟨Nat.le_refl _, h1⟩, by omega⟩, ?_, ?_, C1, CR, CB⟩
    · match p, h1 with
      | a :: l, _ => exact C0
    · match p, h1 with
      | a :: l, _ => exact HK
  case round =>
    obtain ⟨i, rfl, HI, D0, DK, D1, DR, DB⟩ := hrel
    obtain ⟨K, hK⟩ : ∃ K, K = descK k ((p.take i).drop 1) := ⟨_, rfl⟩
    rw [← hK] at D0 DK
    have HKK := Aside0.mk hK
    clear hK
    by_cases hi : i < p.length
    · have HI' := Aside0.mk hi
      obtain ⟨x, hx⟩ : ∃ x, x = p.getD i 0 := ⟨_, rfl⟩
      have HX := Aside0.mk hx
      obtain ⟨_, _, hC⟩ := Kd.R_reads' DR.out
      obtain ⟨ad, rfl, hc⟩ := at_ints hC i (by omega)
      rw [← hx] at hc
      have HC := Aside0.mk hC
      have b2 : (i : Int) < (p.length : Int) := by omega
      have hx0 : 0 ≤ x := by rw [hx]; exact HP.out _ (by simp [hi])
      have hcs : ∀ w', SO wr none w' → w'.cell? (ad.add i) = some (.int .i64 x) := fun w' hw' => by
        have hb := World.block_lt_of_cell? wr _ hc
        have := hw'.blk _ hb (by simp)
        rw [← hc]; unfold World.cell?; rw [this]
      have HCS := Aside0.mk hcs
      have HX0 := Aside0.mk hx0
      clear hx hi hC hcs hx0
      go_wp2_with fail
      refine beginB none 6 7 rfl (by repeat (first | exact nf_body | refine nf_then ?_ | refine nf_block ?_)) (fun NF S0 => ?_)
      refine takeR 0 18 rfl (by kernel_rfl) (by kernel_rfl) (by kernel_rfl) (by kernel_rfl) rfl rfl rfl D0.out (by simp) NF S0 rfl row26 ?_; (try simp only [Act.put, List.setIfInBounds_toArray, List.set_cons_zero, List.set_cons_succ])
      refine takeY 1 19 (.slice (some ad) p.length c) rfl (by kernel_rfl) (by kernel_rfl) (by kernel_rfl) (by kernel_rfl) rfl rfl NF S0 (fun w' hw' => by go_simp) ?_; (try simp only [Act.put, List.setIfInBounds_toArray, List.set_cons_zero, List.set_cons_succ])
      refine takeY 2 20 (.int .i64 i) rfl (by kernel_rfl) (by kernel_rfl) (by kernel_rfl) (by kernel_rfl) rfl rfl NF S0 (fun w' hw' => by go_simp) ?_; (try simp only [Act.put, List.setIfInBounds_toArray, List.set_cons_zero, List.set_cons_succ])
      refine takeY 3 21 (.pointer (some (ad.add i))) rfl (by kernel_rfl) (by kernel_rfl) (by kernel_rfl) (by kernel_rfl) rfl rfl NF S0 (fun w' hw' => by go_simp) ?_; (try simp only [Act.put, List.setIfInBounds_toArray, List.set_cons_zero, List.set_cons_succ])
      refine takeY 4 22 (.int .i64 x) rfl (by kernel_rfl) (by kernel_rfl) (by kernel_rfl) (by kernel_rfl) rfl rfl NF S0 (fun w' hw' => by have c := HCS.out w' hw'; go_simp) ?_; (try simp only [Act.put, List.setIfInBounds_toArray, List.set_cons_zero, List.set_cons_succ])
      refine nextM 5 (by kernel_rfl) rfl (fun K5 hK5 => ?_)
      go_simp
      go_at_call 169
      refine (step_calls K DK.out x HX0.out _).mono ?_
      obtain ⟨K2, hK2⟩ : ∃ K2, K2 = stepK K x := ⟨_, rfl⟩
      rw [← hK2]
      have HK2 := Aside0.mk hK2
      clear hK2
      rintro e2 w2 ⟨rfl, hb2⟩
      have S2 := S0.below hb2
      refine hK5.out _ _ (fun _ => S2) ?_
      (try simp only [Act.put, List.setIfInBounds_toArray, List.set_cons_zero, List.set_cons_succ])
      refine nextM 6 (by kernel_rfl) rfl (fun K6 hK6 => ?_)
      rw [if_pos (by rfl)]
      have F0 := Aside0.mk (blk_to (blk_drew D0.out) hb2)
      refine wp_stR (ty := 26) rfl F0.out (kc K2) rfl rfl row26 rfl rfl (fun W2 P1 => ?_)
      refine hK6.out _ _ (fun h => Bool.noConfusion (h : false = true)) ?_
      refine doneM (by kernel_rfl) ?_ _
      have F1 := Aside0.mk (P1.blk (blk_to (blk_drew D1.out) hb2) (by omega))
      have FB := Aside0.mk (P1.below ((DB.out.drew).trans (hb2.mono DB.out.size)) (Nat.le_refl _))
      have FR := Aside0.mk (Kd.R_step (w1 := W2) (Kd.R_bound (Kd.R_below (Kd.R_below DR.out ((Below.refl _ _).drew)) hb2)) (fun j hj _ => P1.oth j (by have := hj.2.1; omega)))
      have FA := Aside0.mk P1.at_
      clear S0 S2 NF hb2 P1
      go_wp2
      obtain ⟨gq, rfl⟩ : ∃ gq, gk = gq + 1 := ⟨gk - 1, by have := HI'.out; have := HI.out; omega⟩
      go_roundg gq
      case measure => omega
      case rel =>
        have e : (p.take (i + 1)).drop 1 = (p.take i).drop 1 ++ [x] := by
          have h1 := HI.out.1.1; have h2 := HI'.out
          rw [List.take_succ_eq_append_getElem h2, List.drop_append_of_le_length (by rw [List.length_take]; omega), HX.out]
          simp [h2]
        refine ⟨i + 1, by simp, ⟨⟨by omega, HI'.out⟩, by have := HI.out; omega⟩, ?_, ?_, F1, ⟨Kd.R_mono FR.out (fun _ _ => trivial)⟩, FB⟩
        · rw [e, descK_step, ← HKK.out, ← HK2.out]; exact FA
        · rw [e, descK_step]; exact ⟨stepK_ok _ _⟩
    · have hi2 : i = p.length := by have := HI.out; omega
      subst hi2
      have b2 : ¬ ((p.length : Int) < (p.length : Int)) := by omega
      go_wp2_with (first
        | ((with_reducible refine ldR rfl rfl D0.out ?_ ?_ ?_); rfl; exact row26)
        | ((with_reducible refine stR rfl rfl D1.out (kc K) ?_ ?_ ?_ ?_ ?_ ?_); rfl; rfl; exact row26; rfl; rfl; intro W4 P1))
      refine bodyPost_ret (results_cell_row rfl _ _ _ 26 _ (0, 0) _ rfl P1.at_ Try.underlying26 rfl (by kernel_rfl)) rfl ?_
      refine ⟨?_, P1.below DB.out (by omega)⟩
      have e : R = K := by rw [HR.out, HKK.out, List.take_length]
      rw [e]
end Go.Proofs.Ytafhimeoijmolaa.K
namespace Go.Proofs.Ytafhimeoijmolaa.K
open Go.RowKit  Go.Proofs.YtafhimeoijmolaaW.PrintWords Go.Proofs.YtafhimeoijmolaaW.PrintLast Go.Proofs.YtafhimeoijmolaaW.PrintMore Go.Proofs.Ytafhimeoijmolaa.G
set_option linter.unusedVariables false
set_option linter.unusedSimpArgs false
theorem wok_wrap (v : Int) : WOK (IntKind.u64.wrap v) := by unfold WOK; simp [IntKind.wrap, IntKind.bits, IntKind.signed]; omega
structure PathR (v t : Int) (xs : List Int) : Prop where
  mk :: (out : ∃ kk p, headendref03_Path.f kk v t = some p ∧ p.drop 1 = xs ∧ (∀ x ∈ p, 0 ≤ x) ∧ 1 ≤ p.length)
set_option maxHeartbeats 4000000 in
set_option maxRecDepth 100000 in
theorem label_calls (root : S26) (hk : KOK root) (v t : Int) (xs : List Int) (hp : PathR v t xs) (w : World) :
    Calls Try.prog 142 #[kv root, .int .i64 v, .int .i64 t] w fun e w' => e = .returned (kv (descK (nodeK root v) xs)) ∧ Below w.heap.size w w' := by
  obtain ⟨W0, hW0⟩ : ∃ W0, ((w.alloc (.cells (kc root) 26)).alloc (.cells (kc z26) 26)) = W0 := ⟨_, rfl⟩
  have B0 := Aside0.mk (show W0.heap[w.heap.size]? = some (.cells (kc root) 26 (0, 0)) by rw [← hW0]; exact (blk_alloc (newAt rfl) _))
  have B1 := Aside0.mk (show W0.heap[w.heap.size + 1]? = some (.cells (kc z26) 26 (0, 0)) by rw [← hW0]; exact (newAt (by simp)))
  have BB := Aside0.mk (show Below w.heap.size w W0 by rw [← hW0]; exact (((Below.refl _ w).alloc (Nat.le_refl _) _).alloc (by simp) _))
  have BBs := Aside0.mk (show w.heap.size + 2 = W0.heap.size by rw [← hW0]; simp)
  have HW := Aside0.mk hW0
  clear hW0
  have HK := Aside0.mk hk
  have HP := Aside0.mk hp
  obtain ⟨R, hR⟩ : ∃ R, R = descK (nodeK root v) xs := ⟨_, rfl⟩
  rw [← hR]
  have HR := Aside0.mk hR
  have e0 := HW.out
  clear hk hR hp
  go_enter Try.func142, Try.ntmps142
  go_wp2_with fail
  go_at_call 89
  refine (rDerive_calls root 30 _ HK.out (by omega) (wok_wrap v) _).mono ?_
  rintro e1 w1 ⟨rfl, hb1⟩
  have hb1' : Below W0.heap.size W0 w1 := by rw [← e0]; exact hb1
  have C1 := Aside0.mk (blk_to B1.out hb1')
  have CB := Aside0.mk (BB.out.trans (hb1'.mono BB.out.size))
  obtain ⟨K, hK⟩ : ∃ K, K = derK root 30 (IntKind.u64.wrap v) := ⟨_, rfl⟩
  rw [← hK]
  have HK1 := Aside0.mk hK
  have HKO := Aside0.mk (show KOK K by rw [hK]; exact derK_ok _ _ _)
  clear hb1 hb1' e0 hK
  obtain ⟨kk, p, h1, h2, h3, h4⟩ := HP.out
  have HPP := Aside0.mk (And.intro h1 (And.intro h2 (And.intro h3 h4)))
  clear h1 h2 h3 h4 HP
  go_wp2_with fail
  go_at_call 148
  refine (down_calls K HKO.out v t p HPP.out.2.2.1 HPP.out.2.2.2 kk HPP.out.1 _).mono ?_
  rw [HPP.out.2.1]
  rintro e2 w2 ⟨rfl, hb2⟩
  have C2 := Aside0.mk (blk_to C1.out hb2)
  have CB2 := Aside0.mk (CB.out.trans (hb2.mono CB.out.size))
  obtain ⟨K2, hK⟩ : ∃ K2, K2 = descK K xs := ⟨_, rfl⟩
  rw [← hK]
  have HK2 := Aside0.mk hK
  clear hb2 hK
  go_wp2_with (first | ((with_reducible refine stR rfl rfl C2.out (kc K2) ?_ ?_ ?_ ?_ ?_ ?_); rfl; rfl; exact row26; rfl; rfl; intro W2 P1))
  refine bodyPost_ret (results_cell_row rfl _ _ _ 26 _ (0, 0) _ rfl P1.at_ Try.underlying26 rfl (by kernel_rfl)) rfl ?_
  exact ⟨by rw [HR.out, HK2.out, HK1.out]; rfl, P1.below CB2.out (by omega)⟩
set_option maxHeartbeats 4000000 in
set_option maxRecDepth 100000 in
theorem KeyOf_calls (root : S26) (hk : KOK root) (a0 a1 a2 a3 a4 a5 v t : Int) (xs : List Int) (hp : a0 ≠ 1 → t ≠ 0 → PathR v t xs) (w : World) :
    Calls Try.prog 91 #[kv root, .agg #[.int .u8 a0, .int .i64 a1, .int .i64 a2, .int .u64 a3, .int .u64 a4, .int .u64 a5], .agg #[.int .i64 v, .int .i64 t]] w fun e w' => e = .returned (kv (keyI a0 v t xs root)) ∧ Below w.heap.size w w' := by
  obtain ⟨W0, hW0⟩ : ∃ W0, ((((w.alloc (.cells (kc root) 26)).alloc (.cells #[.int .u8 a0, .int .i64 a1, .int .i64 a2, .int .u64 a3, .int .u64 a4, .int .u64 a5] 45)).alloc (.cells #[.int .i64 v, .int .i64 t] 47)).alloc (.cells (kc z26) 26)) = W0 := ⟨_, rfl⟩
  have B0 := Aside0.mk (show W0.heap[w.heap.size]? = some (.cells (kc root) 26 (0, 0)) by rw [← hW0]; exact (blk_alloc (blk_alloc (blk_alloc (newAt rfl) _) _) _))
  have B1 := Aside0.mk (show W0.heap[w.heap.size + 1]? = some (.cells #[.int .u8 a0, .int .i64 a1, .int .i64 a2, .int .u64 a3, .int .u64 a4, .int .u64 a5] 45 (0, 0)) by rw [← hW0]; exact (blk_alloc (blk_alloc (newAt (by simp)) _) _))
  have B2 := Aside0.mk (show W0.heap[w.heap.size + 1 + 1]? = some (.cells #[.int .i64 v, .int .i64 t] 47 (0, 0)) by rw [← hW0]; exact (blk_alloc (newAt (by simp)) _))
  have B3 := Aside0.mk (show W0.heap[w.heap.size + 1 + 1 + 1]? = some (.cells (kc z26) 26 (0, 0)) by rw [← hW0]; exact (newAt (by simp)))
  have BB := Aside0.mk (show Below w.heap.size w W0 by rw [← hW0]; exact (((((Below.refl _ w).alloc (Nat.le_refl _) _).alloc (by simp) _).alloc (by simp; omega) _).alloc (by simp; omega) _))
  have BBs := Aside0.mk (show w.heap.size + 4 = W0.heap.size by rw [← hW0]; simp)
  have HW := Aside0.mk hW0
  clear hW0
  have HK := Aside0.mk hk
  have HP := Aside0.mk hp
  obtain ⟨R, hR⟩ : ∃ R, R = keyI a0 v t xs root := ⟨_, rfl⟩
  rw [← hR]
  have HR := Aside0.mk hR
  have e0 := HW.out
  clear hk hR hp
  by_cases h1 : a0 = 1
  · have E1 := Aside0.mk (show R = nodeK root v from HR.out.trans (if_pos h1))
    have b1 : (a0 == 1) = true := beq_iff_eq.mpr h1
    clear h1
    go_enter Try.func91, Try.ntmps91
    go_wp2_with fail
    go_at_call 89
    refine (rDerive_calls root 30 _ HK.out (by omega) (wok_wrap v) _).mono ?_
    rintro e1 w1 ⟨rfl, hb1⟩
    have hb1' : Below W0.heap.size W0 w1 := by rw [← e0]; exact hb1
    have C3 := Aside0.mk (blk_to B3.out hb1')
    have CB := Aside0.mk (BB.out.trans (hb1'.mono BB.out.size))
    obtain ⟨K, hK⟩ : ∃ K, K = derK root 30 (IntKind.u64.wrap v) := ⟨_, rfl⟩
    rw [← hK]
    have HK1 := Aside0.mk hK
    clear hb1 hb1' e0 hK
    go_wp2_with (first | ((with_reducible refine stR rfl rfl C3.out (kc K) ?_ ?_ ?_ ?_ ?_ ?_); rfl; rfl; exact row26; rfl; rfl; intro W2 P1))
    refine bodyPost_ret (results_cell_row rfl _ _ _ 26 _ (0, 0) _ rfl P1.at_ Try.underlying26 rfl (by kernel_rfl)) rfl ?_
    exact ⟨by rw [E1.out, HK1.out]; rfl, P1.below CB.out (by omega)⟩
  · have b1 : (a0 == 1) = false := beq_eq_false_iff_ne.mpr h1
    by_cases h2 : t = 0
    · have E1 := Aside0.mk (show R = derK root 34 0 by rw [HR.out]; unfold keyI; rw [if_neg h1, if_pos h2])
      have b2 : (t == 0) = true := beq_iff_eq.mpr h2
      clear h1 h2
      go_enter Try.func91, Try.ntmps91
      go_wp2_with fail
      go_at_call 89
      refine (rDerive_calls root 34 0 HK.out (by omega) wok0 _).mono ?_
      rintro e1 w1 ⟨rfl, hb1⟩
      have hb1' : Below W0.heap.size W0 w1 := by rw [← e0]; exact hb1
      have C3 := Aside0.mk (blk_to B3.out hb1')
      have CB := Aside0.mk (BB.out.trans (hb1'.mono BB.out.size))
      obtain ⟨K, hK⟩ : ∃ K, K = derK root 34 0 := ⟨_, rfl⟩
      rw [← hK]
      have HK1 := Aside0.mk hK
      clear hb1 hb1' e0 hK
      go_wp2_with (first | ((with_reducible refine stR rfl rfl C3.out (kc K) ?_ ?_ ?_ ?_ ?_ ?_); rfl; rfl; exact row26; rfl; rfl; intro W2 P1))
      refine bodyPost_ret (results_cell_row rfl _ _ _ 26 _ (0, 0) _ rfl P1.at_ Try.underlying26 rfl (by kernel_rfl)) rfl ?_
      exact ⟨by rw [E1.out, HK1.out], P1.below CB.out (by omega)⟩
    · have E1 := Aside0.mk (show R = derK (descK (nodeK root v) xs) 33 0 by rw [HR.out]; unfold keyI; rw [if_neg h1, if_neg h2])
      have b2 : (t == 0) = false := beq_eq_false_iff_ne.mpr h2
      have HP2 := Aside0.mk (HP.out h1 h2)
      clear h1 h2 HP
      go_enter Try.func91, Try.ntmps91
      go_wp2_with fail
      go_at_call 142
      refine (label_calls root HK.out v t xs HP2.out _).mono ?_
      rintro e1 w1 ⟨rfl, hb1⟩
      have hb1' : Below W0.heap.size W0 w1 := by rw [← e0]; exact hb1
      have C3 := Aside0.mk (blk_to B3.out hb1')
      have CB := Aside0.mk (BB.out.trans (hb1'.mono BB.out.size))
      obtain ⟨K, hK⟩ : ∃ K, K = descK (nodeK root v) xs := ⟨_, rfl⟩
      have HKO := Aside0.mk (show KOK K by
        rw [hK]; unfold descK
        have : ∀ (l : List Int) (q : S26), KOK q → KOK (l.foldl (fun k x => derK k (if Int.tmod x 2 = 1 then 32 else 31) 0) q) := by
          intro l
          induction l with
          | nil => exact fun q h => h
          | cons a l ih => exact fun q _ => ih _ (derK_ok _ _ _)
        exact this _ _ (derK_ok _ _ _))
      rw [← hK]
      have HK1 := Aside0.mk hK
      clear hb1 hb1' e0 hK
      go_wp2_with fail
      go_at_call 89
      refine (rDerive_calls K 33 0 HKO.out (by omega) wok0 _).mono ?_
      rintro e2 w2 ⟨rfl, hb2⟩
      have C4 := Aside0.mk (blk_to C3.out hb2)
      have CB2 := Aside0.mk (CB.out.trans (hb2.mono CB.out.size))
      obtain ⟨K2, hK⟩ : ∃ K2, K2 = derK K 33 0 := ⟨_, rfl⟩
      rw [← hK]
      have HK2 := Aside0.mk hK
      clear hb2 hK
      go_wp2_with (first | ((with_reducible refine stR rfl rfl C4.out (kc K2) ?_ ?_ ?_ ?_ ?_ ?_); rfl; rfl; exact row26; rfl; rfl; intro W2 P1))
      refine bodyPost_ret (results_cell_row rfl _ _ _ 26 _ (0, 0) _ rfl P1.at_ Try.underlying26 rfl (by kernel_rfl)) rfl ?_
      exact ⟨by rw [E1.out, HK2.out, HK1.out], P1.below CB2.out (by omega)⟩
end Go.Proofs.Ytafhimeoijmolaa.K
namespace Go.Proofs.Ytafhimeoijmolaa.K
open Go.RowKit  Go.Proofs.YtafhimeoijmolaaW.PrintWords Go.Proofs.YtafhimeoijmolaaW.PrintLast Go.Proofs.YtafhimeoijmolaaW.PrintMore Go.Proofs.Ytafhimeoijmolaa.G
set_option linter.unusedVariables false
set_option linter.unusedSimpArgs false
theorem getD_mem {α : Type} (l : List α) (i : Nat) (h : i < l.length) (z : α) : l.getD i z ∈ l := by simp [h]
end Go.Proofs.Ytafhimeoijmolaa.K
namespace Go.Proofs.Ytafhimeoijmolaa.K
open Go.RowKit  Go.Proofs.YtafhimeoijmolaaW.PrintWords Go.Proofs.YtafhimeoijmolaaW.PrintLast Go.Proofs.YtafhimeoijmolaaW.PrintMore Go.Proofs.Ytafhimeoijmolaa.G
set_option linter.unusedVariables false
set_option linter.unusedSimpArgs false
theorem sub_path {a d : Nat} {x : S47} (ha : 1 ≤ a) (ha3 : a ≤ 3) (hd : d ≤ 6) (h : subI a d x.f0 x.f1 = true) (h1 : (a : Int) ≠ 1) (h2 : x.f1 ≠ 0) : ∃ xs, pathF 9 x.f0 x.f1 = some xs ∧ PathR x.f0 x.f1 xs := by
  obtain ⟨n, m, e1, e2, hn1, _, hn, _, hm⟩ := subI_nat ha hd h
  rw [e1, e2] at h
  rw [e2] at h2
  obtain ⟨hb, hne⟩ := sub_below' ha h (by omega) (by omega)
  refine ⟨_, by rw [e1, e2]; exact path_n hn hm hb, ?_⟩
  rw [e1, e2]
  refine ⟨⟨20, _, rPath_n hn hm hb (Nat.le_refl _), rfl, ?_, by simp⟩⟩
  intro y hy
  obtain ⟨q, _, rfl⟩ := List.mem_map.1 hy
  exact Int.natCast_nonneg q
end Go.Proofs.Ytafhimeoijmolaa.K
namespace Go.Proofs.Ytafhimeoijmolaa.K
open Go.RowKit  Go.Proofs.YtafhimeoijmolaaW.PrintWords Go.Proofs.YtafhimeoijmolaaW.PrintLast Go.Proofs.YtafhimeoijmolaaW.PrintMore Go.Proofs.Ytafhimeoijmolaa.G
set_option linter.unusedVariables false
set_option linter.unusedSimpArgs false
def labSub (a d u : Nat) : Bool := match headendref03_LabelsOf.f 100 (a : Int) (d : Int) 0 0 0 0 (u : Int) with
  | some l => l.all (fun y => decide (y.f1 = 0) || (!Nat.beq a 1 && subI a d y.f0 y.f1))
  | _ => false
set_option maxRecDepth 100000 in
theorem labSub_fin : all2 4 7 (fun a d => Nat.beq a 0 || (List.range (2 ^ d)).all (fun u => labSub a d u)) = true := by kernel_rfl
theorem labSub_n {a d u : Nat} {l : List S47} (ha : 1 ≤ a) (ha3 : a ≤ 3) (hd : d ≤ 6) (hu : u < 2 ^ d) (hl : headendref03_LabelsOf.f 100 (a : Int) (d : Int) 0 0 0 0 (u : Int) = some l) : ∀ x ∈ l, x.f1 ≠ 0 → PathR x.f0 x.f1 ((pathF 9 x.f0 x.f1).getD []) := by
  have h := all2_at labSub_fin (show a < 4 by omega) (show d < 7 by omega)
  rw [beq_ne (show a ≠ 0 by omega)] at h
  simp only [Bool.false_or] at h
  have h2 := List.all_eq_true.1 h u (List.mem_range.2 hu)
  unfold labSub at h2
  rw [hl] at h2
  intro x hx hne
  have h3 := List.all_eq_true.1 h2 x hx
  simp only [Bool.or_eq_true, decide_eq_true_eq, Bool.and_eq_true, Bool.not_eq_true'] at h3
  rcases h3 with h3 | ⟨h3, h4⟩
  · exact absurd h3 hne
  · have h1 : (a : Int) ≠ 1 := by
      intro e
      have : a = 1 := by omega
      subst this
      cases h3
    obtain ⟨xs, e, hp⟩ := sub_path ha ha3 hd h4 h1 hne
    rw [e]
    exact hp
theorem recv_p {d : Nat} (k s u : Int) (hd : d ≤ 6) : cover_tree_receiver.f k (d : Int) s u = some (decide (0 ≤ u ∧ u < ((2 ^ d : Nat) : Int))) := by
  unfold cover_tree_receiver.f
  rw [size_n _ _ hd]
  by_cases h : u ≥ 0
  · rw [if_pos h]; simp [show (0 : Int) ≤ u from h]
  · rw [if_neg h]; simp; intro h2; exact absurd h2 h
theorem recv_r {d : Nat} (u : Int) (hd : d ≤ 6) : headendref03_receiver.f 100 (d : Int) u = some (decide (0 ≤ u ∧ u < ((2 ^ d : Nat) : Int))) := by
  unfold headendref03_receiver.f
  rw [rReceivers_n hd (by omega)]
  by_cases h : u ≥ 0
  · rw [if_pos h]; simp [show (0 : Int) ≤ u from h]
  · rw [if_neg h]; simp; intro h2; exact absurd h2 h
end Go.Proofs.Ytafhimeoijmolaa.K
namespace Go.Proofs.Ytafhimeoijmolaa.K
open Go.RowKit  Go.Proofs.YtafhimeoijmolaaW.PrintWords Go.Proofs.YtafhimeoijmolaaW.PrintLast Go.Proofs.YtafhimeoijmolaaW.PrintMore Go.Proofs.Ytafhimeoijmolaa.G
set_option linter.unusedVariables false
set_option linter.unusedSimpArgs false
set_option maxHeartbeats 4000000 in
set_option maxRecDepth 100000 in
theorem rSecret_v (root : S26) (a0 a1 a2 a3 a4 a5 u : Int) (w : World) (h1 : headendref03_Valid.f a0 a1 a2 a3 a4 a5 = some false) :
    Calls Try.prog 42 #[kv root, .agg #[.int .u8 a0, .int .i64 a1, .int .i64 a2, .int .u64 a3, .int .u64 a4, .int .u64 a5], .int .i64 u] w fun e' w' => e' = .returned (.tuple #[sv 0 none 0 0 0 0, .int .i64 30]) ∧ Below w.heap.size w w' := by
  have H1 := Aside0.mk h1
  clear h1
  obtain ⟨W0, hW0⟩ : ∃ W0, (((w.alloc (.cells (kc root) 26)).alloc (.cells #[.int .u8 a0, .int .i64 a1, .int .i64 a2, .int .u64 a3, .int .u64 a4, .int .u64 a5] 45)).alloc (.cells (sc 0 none 0 0 0 0) 76)) = W0 := ⟨_, rfl⟩
  have B0 := Aside0.mk (show W0.heap[w.heap.size]? = some (.cells (kc root) 26 (0, 0)) by rw [← hW0]; exact (blk_alloc (blk_alloc (newAt rfl) _) _))
  have B1 := Aside0.mk (show W0.heap[w.heap.size + 1]? = some (.cells #[.int .u8 a0, .int .i64 a1, .int .i64 a2, .int .u64 a3, .int .u64 a4, .int .u64 a5] 45 (0, 0)) by rw [← hW0]; exact (blk_alloc (newAt (by simp)) _))
  have B2 := Aside0.mk (show W0.heap[w.heap.size + 1 + 1]? = some (.cells (sc 0 none 0 0 0 0) 76 (0, 0)) by rw [← hW0]; exact (newAt (by simp)))
  have BB := Aside0.mk (show Below w.heap.size w W0 by rw [← hW0]; exact ((((Below.refl _ w).alloc (Nat.le_refl _) _).alloc (by simp) _).alloc (by simp; omega) _))
  have BBs := Aside0.mk (show w.heap.size + 3 = W0.heap.size by rw [← hW0]; simp)
  have HW := Aside0.mk hW0
  clear hW0
  have e0 := HW.out
  go_enter Try.func42, Try.ntmps42
  go_wp2_with (first | ((with_reducible refine ldR rfl rfl B1.out ?_ ?_ ?_); rfl; exact row45))
  go_at_call 61
  refine (headendref03_Valid.calls a0 a1 a2 a3 a4 a5 false _ H1.out).mono ?_
  rintro e1 w1 ⟨rfl, hb1⟩
  have hb1' : Below W0.heap.size W0 w1 := hb1
  have C2 := Aside0.mk (blk_to B2.out hb1')
  have CB := Aside0.mk (BB.out.trans (hb1'.mono BB.out.size))
  have hcs : w.heap.size + 3 ≤ w1.heap.size := by have := hb1'.size; have := BBs.out; omega
  clear hb1 hb1' e0 B0 B1 B2 BB BBs HW H1
  go_wp2_with (first | ((with_reducible refine stR rfl rfl C2.out (sc 0 none 0 0 0 0) ?_ ?_ ?_ ?_ ?_ ?_); rfl; rfl; exact row76; rfl; rfl; intro W2 P1))
  refine bodyPost_ret (ret_sec rfl rfl rfl P1.at_) rfl ?_
  exact ⟨rfl, P1.below CB.out (by omega)⟩
set_option maxHeartbeats 4000000 in
set_option maxRecDepth 100000 in
theorem rSecret_r (root : S26) (a0 a1 a2 a3 a4 a5 u : Int) (kk : Nat) (w : World) (h1 : headendref03_Valid.f a0 a1 a2 a3 a4 a5 = some true) (h2 : headendref03_receiver.f kk a1 u = some false) :
    Calls Try.prog 42 #[kv root, .agg #[.int .u8 a0, .int .i64 a1, .int .i64 a2, .int .u64 a3, .int .u64 a4, .int .u64 a5], .int .i64 u] w fun e' w' => e' = .returned (.tuple #[sv 0 none 0 0 0 0, .int .i64 2]) ∧ Below w.heap.size w w' := by
  have H1 := Aside0.mk h1; have H2 := Aside0.mk h2
  clear h1 h2
  obtain ⟨W0, hW0⟩ : ∃ W0, (((w.alloc (.cells (kc root) 26)).alloc (.cells #[.int .u8 a0, .int .i64 a1, .int .i64 a2, .int .u64 a3, .int .u64 a4, .int .u64 a5] 45)).alloc (.cells (sc 0 none 0 0 0 0) 76)) = W0 := ⟨_, rfl⟩
  have B0 := Aside0.mk (show W0.heap[w.heap.size]? = some (.cells (kc root) 26 (0, 0)) by rw [← hW0]; exact (blk_alloc (blk_alloc (newAt rfl) _) _))
  have B1 := Aside0.mk (show W0.heap[w.heap.size + 1]? = some (.cells #[.int .u8 a0, .int .i64 a1, .int .i64 a2, .int .u64 a3, .int .u64 a4, .int .u64 a5] 45 (0, 0)) by rw [← hW0]; exact (blk_alloc (newAt (by simp)) _))
  have B2 := Aside0.mk (show W0.heap[w.heap.size + 1 + 1]? = some (.cells (sc 0 none 0 0 0 0) 76 (0, 0)) by rw [← hW0]; exact (newAt (by simp)))
  have BB := Aside0.mk (show Below w.heap.size w W0 by rw [← hW0]; exact ((((Below.refl _ w).alloc (Nat.le_refl _) _).alloc (by simp) _).alloc (by simp; omega) _))
  have BBs := Aside0.mk (show w.heap.size + 3 = W0.heap.size by rw [← hW0]; simp)
  have HW := Aside0.mk hW0
  clear hW0
  have e0 := HW.out
  go_enter Try.func42, Try.ntmps42
  go_wp2_with (first | ((with_reducible refine ldR rfl rfl B1.out ?_ ?_ ?_); rfl; exact row45))
  go_at_call 61
  refine (headendref03_Valid.calls a0 a1 a2 a3 a4 a5 true _ H1.out).mono ?_
  rintro e1 w1 ⟨rfl, hb1⟩
  have hb1' : Below W0.heap.size W0 w1 := hb1
  have C1 := Aside0.mk (blk_to B1.out hb1'); have C2 := Aside0.mk (blk_to B2.out hb1')
  have CB := Aside0.mk (BB.out.trans (hb1'.mono BB.out.size))
  have hcs : w.heap.size + 3 ≤ w1.heap.size := by have := hb1'.size; have := BBs.out; omega
  clear hb1 hb1' e0 B0 B1 B2 BB BBs HW H1
  have c1 := cat C1.out 1 (.int .i64 a1) rfl
  go_wp2_with fail
  go_at_call 95
  refine (headendref03_receiver.calls kk a1 u false _ H2.out).mono ?_
  rintro e2 w2 ⟨rfl, ⟨⟨nd, rfl⟩⟩⟩
  have C3 : (w1.drewN nd).heap[w.heap.size + 1 + 1]? = some (.cells (sc 0 none 0 0 0 0) 76 (0, 0)) := C2.out
  go_wp2_with (first | ((with_reducible refine stR rfl rfl C3 (sc 0 none 0 0 0 0) ?_ ?_ ?_ ?_ ?_ ?_); rfl; rfl; exact row76; rfl; rfl; intro W2 P1))
  refine bodyPost_ret (ret_sec rfl rfl rfl P1.at_) rfl ?_
  exact ⟨rfl, P1.below (pw_below_drewN CB.out nd) (by omega)⟩
end Go.Proofs.Ytafhimeoijmolaa.K
namespace Go.Proofs.Ytafhimeoijmolaa.K
open Go.RowKit  Go.Proofs.YtafhimeoijmolaaW.PrintWords Go.Proofs.YtafhimeoijmolaaW.PrintLast Go.Proofs.YtafhimeoijmolaaW.PrintMore Go.Proofs.Ytafhimeoijmolaa.G
set_option linter.unusedVariables false
set_option linter.unusedSimpArgs false
set_option maxHeartbeats 4000000 in
set_option maxRecDepth 100000 in
theorem rSecret_ok (root : S26) (a0 a1 a2 a3 a4 a5 u : Int) (kk : Nat) (ys : List S83) (w : World) (h1 : headendref03_Valid.f a0 a1 a2 a3 a4 a5 = some true) (h2 : headendref03_receiver.f kk a1 u = some true)
    (hS : ∀ W, Calls Try.prog 96 #[kv root, .agg #[.int .u8 a0, .int .i64 a1, .int .i64 a2, .int .u64 a3, .int .u64 a4, .int .u64 a5], .int .i64 u] W fun e' w' => ∃ A n c, e' = .returned (sv u A n c 0 0) ∧ Kd.R k83 83 w' W.heap.size (fun _ => True) (.slice A n c) ys ∧ Below W.heap.size W w') :
    Calls Try.prog 42 #[kv root, .agg #[.int .u8 a0, .int .i64 a1, .int .i64 a2, .int .u64 a3, .int .u64 a4, .int .u64 a5], .int .i64 u] w fun e' w' => ∃ A n c, e' = .returned (.tuple #[sv u A n c 0 0, .int .i64 0]) ∧ Kd.R k83 83 w' w.heap.size (fun _ => True) (.slice A n c) ys ∧ Below w.heap.size w w' := by
  have H1 := Aside0.mk h1; have H2 := Aside0.mk h2; have HS := Aside0.mk hS
  clear h1 h2 hS
  obtain ⟨W0, hW0⟩ : ∃ W0, (((w.alloc (.cells (kc root) 26)).alloc (.cells #[.int .u8 a0, .int .i64 a1, .int .i64 a2, .int .u64 a3, .int .u64 a4, .int .u64 a5] 45)).alloc (.cells (sc 0 none 0 0 0 0) 76)) = W0 := ⟨_, rfl⟩
  have B0 := Aside0.mk (show W0.heap[w.heap.size]? = some (.cells (kc root) 26 (0, 0)) by rw [← hW0]; exact (blk_alloc (blk_alloc (newAt rfl) _) _))
  have B1 := Aside0.mk (show W0.heap[w.heap.size + 1]? = some (.cells #[.int .u8 a0, .int .i64 a1, .int .i64 a2, .int .u64 a3, .int .u64 a4, .int .u64 a5] 45 (0, 0)) by rw [← hW0]; exact (blk_alloc (newAt (by simp)) _))
  have B2 := Aside0.mk (show W0.heap[w.heap.size + 1 + 1]? = some (.cells (sc 0 none 0 0 0 0) 76 (0, 0)) by rw [← hW0]; exact (newAt (by simp)))
  have BB := Aside0.mk (show Below w.heap.size w W0 by rw [← hW0]; exact ((((Below.refl _ w).alloc (Nat.le_refl _) _).alloc (by simp) _).alloc (by simp; omega) _))
  have BBs := Aside0.mk (show w.heap.size + 3 = W0.heap.size by rw [← hW0]; simp)
  have HW := Aside0.mk hW0
  clear hW0
  have e0 := HW.out
  go_enter Try.func42, Try.ntmps42
  go_wp2_with (first | ((with_reducible refine ldR rfl rfl B1.out ?_ ?_ ?_); rfl; exact row45))
  go_at_call 61
  refine (headendref03_Valid.calls a0 a1 a2 a3 a4 a5 true _ H1.out).mono ?_
  rintro e1 w1 ⟨rfl, hb1⟩
  have hb1' : Below W0.heap.size W0 w1 := hb1
  have C0 := Aside0.mk (blk_to B0.out hb1'); have C1 := Aside0.mk (blk_to B1.out hb1'); have C2 := Aside0.mk (blk_to B2.out hb1')
  have CB := Aside0.mk (BB.out.trans (hb1'.mono BB.out.size))
  have hcs : w.heap.size + 3 ≤ w1.heap.size := by have := hb1'.size; have := BBs.out; omega
  clear hb1 hb1' e0 B0 B1 B2 BB BBs HW H1
  have c1 := cat C1.out 1 (.int .i64 a1) rfl
  go_wp2_with fail
  go_at_call 95
  refine (headendref03_receiver.calls kk a1 u true _ H2.out).mono ?_
  rintro e2 w2 ⟨rfl, ⟨⟨nd, rfl⟩⟩⟩
  obtain ⟨w2, hw2⟩ : ∃ w2, w2 = w1.drewN nd := ⟨_, rfl⟩
  rw [← hw2]
  have D0 : w2.heap[w.heap.size]? = some (.cells (kc root) 26 (0, 0)) := by rw [hw2]; exact C0.out
  have D1 : w2.heap[w.heap.size + 1]? = some (.cells #[.int .u8 a0, .int .i64 a1, .int .i64 a2, .int .u64 a3, .int .u64 a4, .int .u64 a5] 45 (0, 0)) := by rw [hw2]; exact C1.out
  have D2 : w2.heap[w.heap.size + 1 + 1]? = some (.cells (sc 0 none 0 0 0 0) 76 (0, 0)) := by rw [hw2]; exact C2.out
  have DB := Aside0.mk (show Below w.heap.size w w2 by rw [hw2]; exact pw_below_drewN CB.out nd)
  have hds : w.heap.size + 3 ≤ w2.heap.size := by rw [hw2]; exact hcs
  have E0 := Aside0.mk D0; have E1 := Aside0.mk D1; have E2 := Aside0.mk D2
  clear hw2 c1 C0 C1 C2 CB hcs H2 D0 D1 D2
  go_wp2_with (first | ((with_reducible refine ldR rfl rfl E0.out ?_ ?_ ?_); rfl; exact row26) | ((with_reducible refine ldR rfl rfl E1.out ?_ ?_ ?_); rfl; exact row45))
  go_at_call 96
  refine (HS.out _).mono ?_
  rintro e3 w3 ⟨A, n, c, rfl, hr3, hb3⟩
  have F2 := Aside0.mk (blk_to E2.out hb3)
  have FB := Aside0.mk (DB.out.trans (hb3.mono DB.out.size))
  have FR := Aside0.mk (Kd.R_bound hr3)
  clear hr3 hb3 DB E0 E1 E2
  go_wp2_with (first | ((with_reducible refine stR rfl rfl F2.out (sc u A n c 0 0) ?_ ?_ ?_ ?_ ?_ ?_); rfl; rfl; exact row76; rfl; rfl; intro W9 P9))
  refine bodyPost_ret (ret_sec rfl rfl rfl P9.at_) rfl ?_
  refine ⟨A, n, c, rfl, ?_, P9.below FB.out (by omega)⟩
  have h1 := Kd.R_step (w1 := W9) FR.out (fun j hj _ => P9.oth j (by have := hj.2.1; omega))
  exact Kd.R_mono (Kd.R_lower h1 (by omega)) (fun _ _ => trivial)
end Go.Proofs.Ytafhimeoijmolaa.K
namespace Go.Proofs.Ytafhimeoijmolaa.K
open Go.RowKit  Go.Proofs.YtafhimeoijmolaaW.PrintWords Go.Proofs.YtafhimeoijmolaaW.PrintLast Go.Proofs.YtafhimeoijmolaaW.PrintMore Go.Proofs.Ytafhimeoijmolaa.G
set_option linter.unusedVariables false
set_option linter.unusedSimpArgs false
def SecPost (r e : Int) (ys : List S83) (w : World) : Ending → World → Prop := fun e' w' => ∃ A n c, e' = .returned (.tuple #[sv r A n c 0 0, .int .i64 e]) ∧ Kd.R k83 83 w' w.heap.size (fun _ => True) (.slice A n c) ys ∧ Below w.heap.size w w'
theorem secPost_zero {f : FuncId} {args : Array Value} {e : Int} {w : World} (h : Calls Try.prog f args w fun e' w' => e' = .returned (.tuple #[sv 0 none 0 0 0 0, .int .i64 e]) ∧ Below w.heap.size w w') : Calls Try.prog f args w (SecPost 0 e [] w) :=
  h.mono fun _ _ h => ⟨none, 0, 0, h.1, Kd.R_nil _ _ _ _ _, h.2⟩
theorem secret_both (root : S26) (a0 a1 a2 a3 a4 a5 u : Int)
    (hR : ∀ (l : List S47) (W : World), headendref03_LabelsOf.f 100 a0 a1 a2 a3 a4 a5 u = some l → l.length ≤ 64 → (∀ x ∈ l, x.f1 ≠ 0 → PathR x.f0 x.f1 ((pathF 9 x.f0 x.f1).getD [])) → Calls Try.prog 96 #[kv root, .agg #[.int .u8 a0, .int .i64 a1, .int .i64 a2, .int .u64 a3, .int .u64 a4, .int .u64 a5], .int .i64 u] W fun e' w' => ∃ A n c, e' = .returned (sv u A n c 0 0) ∧ Kd.R k83 83 w' W.heap.size (fun _ => True) (.slice A n c) (l.map (fun x => lblK a0 root (x.f0, x.f1))) ∧ Below W.heap.size W w') :
    ∃ (r e : Int) (ys : List S83), (∀ w, Calls Try.prog 41 #[kv root, .agg #[.int .u8 a0, .int .i64 a1, .int .i64 a2, .int .u64 a3, .int .u64 a4, .int .u64 a5], .int .i64 u] w (SecPost r e ys w)) ∧ (∀ w, Calls Try.prog 42 #[kv root, .agg #[.int .u8 a0, .int .i64 a1, .int .i64 a2, .int .u64 a3, .int .u64 a4, .int .u64 a5], .int .i64 u] w (SecPost r e ys w)) := by
  by_cases hv : ValidI a0 a1 a2 a3 a4 a5
  · obtain ⟨a, d, rfl, rfl, ha, ha3, hd, rfl, rfl, rfl, rfl⟩ := hv.nat
    have h1 : cover_enter.f 70 (a : Int) (d : Int) 0 0 0 0 [] = some ((a : Int), (d : Int), (strd d : Int), 0) := by
      rw [enter_list [] (by simp) ha ha3 hd]; rfl
    by_cases hu : 0 ≤ u ∧ u < ((2 ^ d : Nat) : Int)
    · obtain ⟨n, rfl⟩ : ∃ n : Nat, u = (n : Int) := ⟨u.toNat, by omega⟩
      obtain ⟨xs, l, e1, e2, hle, hxs, hp⟩ := lab_n ha ha3 hd (show n < 2 ^ d by have := hu.2; omega)
      refine ⟨n, 0, xs.map (lblK a root), fun w => ?_, fun w => ?_⟩
      · exact Secret_ok root a d 0 0 0 0 n a d (strd d) xs w h1 (by rw [recv_p _ _ _ hd, decide_eq_true hu]) e1 (by omega) hp
      · refine rSecret_ok root a d 0 0 0 0 n 100 _ w (rValid_good ha ha3 hd) (by rw [recv_r _ hd, decide_eq_true hu]) (fun W => ?_)
        have h := hR l W e2 (by rw [hxs, List.length_map] at hle; exact hle) (labSub_n ha ha3 hd (show n < 2 ^ d by have := hu.2; omega) e2)
        rw [hxs, List.map_map]
        exact h
    · exact ⟨0, 2, [], fun w => secPost_zero (Secret_r root a d 0 0 0 0 u a d (strd d) w h1 (by rw [recv_p _ _ _ hd, decide_eq_false hu])), fun w => secPost_zero (rSecret_r root a d 0 0 0 0 u 100 w (rValid_good ha ha3 hd) (by rw [recv_r _ hd, decide_eq_false hu]))⟩
  · exact ⟨0, 30, [], fun w => secPost_zero (Secret_e root a0 a1 a2 a3 a4 a5 u _ _ _ 30 w (enter_bad [] hv (by omega)) (by omega)), fun w => secPost_zero (rSecret_v root a0 a1 a2 a3 a4 a5 u w (rValid_bad hv))⟩
end Go.Proofs.Ytafhimeoijmolaa.K
namespace Go.Proofs.Ytafhimeoijmolaa.K
open Go.RowKit  Go.Proofs.YtafhimeoijmolaaW.PrintWords Go.Proofs.YtafhimeoijmolaaW.PrintLast Go.Proofs.YtafhimeoijmolaaW.PrintMore Go.Proofs.Ytafhimeoijmolaa.G
set_option linter.unusedVariables false
set_option linter.unusedSimpArgs false
def lblS (k : Int) (root : S26) (x : S47) : S83 := ⟨x.f0, x.f1, if x.f1 = 0 then keyI k x.f0 0 [] root else descK (nodeK root x.f0) ((pathF 9 x.f0 x.f1).getD [])⟩
theorem next2M {P : Program} {md : Region.Mode} {ops : Array Oper} {Q : Exit → Act → World → Prop} {S : World → Prop} {m : Nat} (i j : Nat) {o o2 : Oper} {f : Nat} {listed : Array Bool} {a : Act} {w : World} (hr : Region.ready md ops listed = [i, j]) (ho : ops[i]? = some o) (ho2 : ops[j]? = some o2)
    (h : ∀ K : Act → World → Prop, Shut (∀ a w, (preM ops m (listed.setIfInBounds i true) = true → S w) → AnyM P md ops Q S m f (listed.setIfInBounds i true) a w → K a w) → if Region.wanted o (yielded ops a.tmps) = true then Oper.wp P o a w K Q else K (a.put o.dst undef) w)
    (h2 : ∀ K : Act → World → Prop, Shut (∀ a w, (preM ops m (listed.setIfInBounds j true) = true → S w) → AnyM P md ops Q S m f (listed.setIfInBounds j true) a w → K a w) → if Region.wanted o2 (yielded ops a.tmps) = true then Oper.wp P o2 a w K Q else K (a.put o2.dst undef) w) :
    AnyM P md ops Q S m (f + 1) listed a w := by
  refine ⟨fun h0 => (by rw [hr] at h0; cases h0), fun k hk => ?_⟩
  rw [hr] at hk
  rcases List.mem_cons.1 hk with rfl | hk
  · exact wpOp_step ho (fun K' hK => h K' (fun a w h1 h2 => hK a w ⟨h1, h2⟩))
  · obtain rfl := List.mem_singleton.1 hk
    exact wpOp_step ho2 (fun K' hK => h2 K' (fun a w h1 h2 => hK a w ⟨h1, h2⟩))
set_option maxHeartbeats 40000000 in
set_option maxRecDepth 100000 in
theorem rSecretOf_ok (root : S26) (a0 a1 a2 a3 a4 a5 u : Int) (l : List S47) (kk : Nat) (w : World) (hl : headendref03_LabelsOf.f kk a0 a1 a2 a3 a4 a5 u = some l) (h64 : l.length ≤ 64) (hkr : KOK root)
    (hp : ∀ x ∈ l, x.f1 ≠ 0 → PathR x.f0 x.f1 ((pathF 9 x.f0 x.f1).getD [])) :
    Calls Try.prog 96 #[kv root, .agg #[.int .u8 a0, .int .i64 a1, .int .i64 a2, .int .u64 a3, .int .u64 a4, .int .u64 a5], .int .i64 u] w fun e' w' => ∃ A n c, e' = .returned (sv u A n c 0 0) ∧ Kd.R k83 83 w' w.heap.size (fun _ => True) (.slice A n c) (l.map (lblS a0 root)) ∧ Below w.heap.size w w' := by
  have H1 := Aside0.mk hl; have HKR := Aside0.mk hkr; have HP := Aside0.mk hp; have H64 := Aside0.mk h64
  clear hl hkr hp h64
  obtain ⟨W0, hW0⟩ : ∃ W0, (((w.alloc (.cells (kc root) 26)).alloc (.cells #[.int .u8 a0, .int .i64 a1, .int .i64 a2, .int .u64 a3, .int .u64 a4, .int .u64 a5] 45)).alloc (.cells (sc 0 none 0 0 0 0) 76)) = W0 := ⟨_, rfl⟩
  have B0 := Aside0.mk (show W0.heap[w.heap.size]? = some (.cells (kc root) 26 (0, 0)) by rw [← hW0]; exact (blk_alloc (blk_alloc (newAt rfl) _) _))
  have B1 := Aside0.mk (show W0.heap[w.heap.size + 1]? = some (.cells #[.int .u8 a0, .int .i64 a1, .int .i64 a2, .int .u64 a3, .int .u64 a4, .int .u64 a5] 45 (0, 0)) by rw [← hW0]; exact (blk_alloc (newAt (by simp)) _))
  have B2 := Aside0.mk (show W0.heap[w.heap.size + 1 + 1]? = some (.cells (sc 0 none 0 0 0 0) 76 (0, 0)) by rw [← hW0]; exact (newAt (by simp)))
  have BB := Aside0.mk (show Below w.heap.size w W0 by rw [← hW0]; exact ((((Below.refl _ w).alloc (Nat.le_refl _) _).alloc (by simp) _).alloc (by simp; omega) _))
  have BBs := Aside0.mk (show w.heap.size + 3 = W0.heap.size by rw [← hW0]; simp)
  have HW := Aside0.mk hW0
  clear hW0
  have e0 := HW.out
  go_enter Try.func96, Try.ntmps96
  go_wp2_with (first | ((with_reducible refine ldR rfl rfl (blk_alloc B1.out _) ?_ ?_ ?_); rfl; exact row45))
  go_at_call 83
  refine (headendref03_LabelsOf.calls kk a0 a1 a2 a3 a4 a5 u l _ H1.out).mono ?_
  rintro e1 w1 ⟨vl, rfl, hr1, hb1⟩
  obtain ⟨A, n, c, rfl⟩ : ∃ A n m, vl = .slice A n m := by obtain ⟨A, m, h⟩ := Kd.R_slice hr1; exact ⟨A, _, m, h⟩
  obtain ⟨rfl, hnc, -⟩ := Kd.R_reads' hr1
  obtain ⟨g, hg⟩ : ∃ g, g = W0.heap.size := ⟨_, rfl⟩
  have hgs : w.heap.size + 3 = g := by rw [hg]; exact BBs.out
  have E0 := Aside0.mk (blk_to (blk_alloc B0.out _) hb1); have E1 := Aside0.mk (blk_to (blk_alloc B1.out _) hb1); have E2 := Aside0.mk (blk_to (blk_alloc B2.out _) hb1)
  have EG := Aside0.mk (show w1.heap[g]? = some (.cells (sc u none 0 0 0 0) 76 (0, 0)) by rw [hg]; exact blk_to (newAt rfl) hb1)
  have EB := Aside0.mk (show Below w.heap.size w w1 from (BB.out.alloc BB.out.size _).trans (hb1.mono (by have := BB.out.size; simp; omega)))
  have EL := Aside0.mk (show Kd.R k47 47 w1 (g + 1) (fun j => j < w1.heap.size) (.slice A l.length c) l by
    have h := Kd.R_mono (Kd.R_bound hr1) (ok' := fun j => j < w1.heap.size) (fun j hj => hj.2.2.1)
    rw [hg]; simpa using h)
  have hgw : g + 1 ≤ w1.heap.size := by have := hb1.size; simp at this; omega
  have hl : l.length ≤ 9223372036854775807 := by have := H64.out; omega
  rw [← hg]
  clear hr1 hb1 e0 B0 B1 B2 BB BBs HW H1 hg
  go_wp2
  go_loopg [9] l.length (fun kq v9 w' => ∃ (i : Nat) (v : Value), v9 = .int .i64 (i : Int) ∧ Aside0 (i + kq = l.length) ∧ Aside0 (w'.heap[g]? = some (.cells #[.int .i64 u, v, .int .u64 0, .int .u64 0] 76 (0, 0))) ∧ Aside0 (Kd.R k83 83 w' w1.heap.size (fun j => w1.heap.size ≤ j) v ((l.take i).map (lblS a0 root))) ∧ Aside0 (Kd.R k47 47 w' (g + 1) (fun j => j < w1.heap.size) (.slice A l.length c) l) ∧ Aside0 (Below g w1 w'))
  case atStart => exact ⟨0, .slice none 0 0, rfl, ⟨by omega⟩, EG, ⟨Kd.R_nil _ _ _ _ _⟩, EL, ⟨Below.refl _ _⟩⟩
  case round =>
    obtain ⟨i, v, rfl, HI, HG, HR, HL, HB⟩ := hrel
    have stand : ∀ {j : Nat} {o : Obj}, w1.heap[j]? = some o → j < g → wr.heap[j]? = some o := fun hj hlt => (HB.out.block _ hlt).trans hj
    have F0 := Aside0.mk (stand E0.out (by omega)); have F1 := Aside0.mk (stand E1.out (by omega)); have F2 := Aside0.mk (stand E2.out (by omega))
    have FB := Aside0.mk (EB.out.trans (HB.out.mono (by omega)))
    have hws : w1.heap.size ≤ wr.heap.size := HB.out.size
    clear stand
    by_cases hi : i < l.length
    · have HI' := Aside0.mk hi
      obtain ⟨x, hx⟩ : ∃ x, x = l.getD i z47 := ⟨_, rfl⟩
      have HX := Aside0.mk hx
      obtain ⟨_, _, hC2⟩ := Kd.R_reads' HL.out
      obtain ⟨ad, cc, rfl, -⟩ := Kd.C_get hC2 z47 (i : Int) (by omega) (by omega)
      have HC2 := Aside0.mk hC2
      have b2 : (i : Int) < (l.length : Int) := by omega
      have hxl : x ∈ l := by rw [hx]; exact getD_mem l i hi z47
      have HPX := Aside0.mk (HP.out x hxl)
      clear hx hi hC2 hxl
      go_wp2_with fail
      refine beginB none 99 9 rfl (by repeat (first | exact nf_body | refine nf_then ?_ | refine nf_block ?_)) (fun NF S0 => ?_)
      refine takeR 0 22 rfl (by kernel_rfl) (by kernel_rfl) (by kernel_rfl) (by kernel_rfl) rfl rfl rfl F0.out (by simp) NF S0 rfl row26 ?_; (try simp only [Act.put, List.setIfInBounds_toArray, List.set_cons_zero, List.set_cons_succ])
      refine takeR 1 23 rfl (by kernel_rfl) (by kernel_rfl) (by kernel_rfl) (by kernel_rfl) rfl rfl rfl F1.out (by simp) NF S0 rfl row45 ?_; (try simp only [Act.put, List.setIfInBounds_toArray, List.set_cons_zero, List.set_cons_succ])
      refine takeY 2 24 (.slice (some ad) l.length c) rfl (by kernel_rfl) (by kernel_rfl) (by kernel_rfl) (by kernel_rfl) rfl rfl NF S0 (fun w' hw' => by go_simp) ?_; (try simp only [Act.put, List.setIfInBounds_toArray, List.set_cons_zero, List.set_cons_succ])
      refine takeY 3 25 (.int .i64 i) rfl (by kernel_rfl) (by kernel_rfl) (by kernel_rfl) (by kernel_rfl) rfl rfl NF S0 (fun w' hw' => by go_simp) ?_; (try simp only [Act.put, List.setIfInBounds_toArray, List.set_cons_zero, List.set_cons_succ])
      refine takeY 4 26 (.pointer (some (ad.add (i * 2)))) rfl (by kernel_rfl) (by kernel_rfl) (by kernel_rfl) (by kernel_rfl) rfl rfl NF S0 (fun w' hw' => by go_simp) ?_; (try simp only [Act.put, List.setIfInBounds_toArray, List.set_cons_zero, List.set_cons_succ])
      refine takeC 5 27 rfl (by kernel_rfl) (by kernel_rfl) (by kernel_rfl) (by kernel_rfl) rfl rfl rfl HC2.out (by simp) (fun _ _ _ h => h) i z47 [.int .i64 x.f0, .int .i64 x.f1] 2 HI'.out (fun _ c h => by rw [← HX.out] at h; exact k47_cs c h) NF S0 rfl row47 rfl ?_; (try simp only [Act.put, List.setIfInBounds_toArray, List.set_cons_zero, List.set_cons_succ])
      obtain ⟨K4, hK4⟩ : ∃ K4, K4 = keyI a0 x.f0 x.f1 ((pathF 9 x.f0 x.f1).getD []) root := ⟨_, rfl⟩
      have HK4 := Aside0.mk hK4
      have hcall := fun W => KeyOf_calls root HKR.out a0 a1 a2 a3 a4 a5 x.f0 x.f1 ((pathF 9 x.f0 x.f1).getD []) (fun _ => HPX.out) W
      rw [← hK4] at hcall
      have HCL := Aside0.mk hcall
      clear hK4 hcall
      refine next2M 6 7 (by kernel_rfl) rfl rfl (fun K6 hK6 => ?ord1) (fun K7 hK7 => ?ord2)
      case' ord1 =>
        go_simp
        go_at_call 91
        refine (HCL.out _).mono ?_
        rintro e4 w4 ⟨rfl, hb4⟩
        have S4 := S0.below hb4
        have HB4 := Aside0.mk (show Below wr.heap.size wr w4 from ((Below.refl _ _).drew).trans hb4)
        refine hK6.out _ _ (fun _ => S4) ?_
        (try simp only [Act.put, List.setIfInBounds_toArray, List.set_cons_zero, List.set_cons_succ])
        refine nextM 7 (by kernel_rfl) rfl (fun K7 hK7 => ?_)
        go_simp
        refine hK7.out _ _ (fun _ => S4.below ((Below.refl _ _).alloc (Nat.le_refl _) _)) ?_
        (try simp only [Act.put, List.setIfInBounds_toArray, List.set_cons_zero, List.set_cons_succ])
        refine nextM 8 (by kernel_rfl) rfl (fun K8 hK8 => ?_)
        rw [if_pos (by rfl)]
        refine wp_stR (ty := 26) rfl (newAt rfl) (kc K4) rfl rfl row26 rfl rfl (fun wa P1 => ?_)
        refine hK8.out _ _ (fun _ => S4.below (show Below w4.heap.size w4 wa from P1.below ((Below.refl _ _).alloc (Nat.le_refl _) _) (Nat.le_refl _))) ?_
        refine doneM (by kernel_rfl) ?_ _
        obtain ⟨q, hq⟩ : ∃ q, q = w4.heap.size := ⟨_, rfl⟩
        rw [← hq]
        have WB := Aside0.mk (show Below wr.heap.size wr wa from P1.below (HB4.out.alloc HB4.out.size _) HB4.out.size)
        have KB := Aside0.mk (show wa.heap[q]? = some (.cells (kc K4) 26 (0, 0)) by rw [hq]; exact P1.at_)
        have hqs : wr.heap.size ≤ q := by rw [hq]; exact HB4.out.size
        clear hq P1 S4 HB4 S0 NF
      case' ord2 =>
        go_simp
        refine hK7.out _ _ (fun _ => S0.below ((Below.refl _ _).alloc (Nat.le_refl _) _)) ?_
        (try simp only [Act.put, List.setIfInBounds_toArray, List.set_cons_zero, List.set_cons_succ])
        refine nextM 6 (by kernel_rfl) rfl (fun K6 hK6 => ?_)
        go_simp
        go_at_call 91
        refine (HCL.out _).mono ?_
        rintro e4 w4 ⟨rfl, hb4⟩
        have C4 := Aside0.mk (blk_to (blk_drew (newAt rfl)) hb4)
        have HB4 := Aside0.mk (show Below wr.heap.size wr w4 from (((Below.refl _ wr).alloc (Nat.le_refl _) _).drew).trans (hb4.mono (by show wr.heap.size ≤ (wr.alloc _).heap.size; simp)))
        have S4 : SO wr none w4 := ⟨HB4.out.size, fun j hj _ => HB4.out.block j hj⟩
        refine hK6.out _ _ (fun _ => S4) ?_
        (try simp only [Act.put, List.setIfInBounds_toArray, List.set_cons_zero, List.set_cons_succ])
        refine nextM 8 (by kernel_rfl) rfl (fun K8 hK8 => ?_)
        rw [if_pos (by rfl)]
        refine wp_stR (ty := 26) rfl C4.out (kc K4) rfl rfl row26 rfl rfl (fun wa P1 => ?_)
        have WB := Aside0.mk (show Below wr.heap.size wr wa from P1.below HB4.out (Nat.le_refl _))
        refine hK8.out _ _ (fun _ => ⟨WB.out.size, fun j hj _ => WB.out.block j hj⟩) ?_
        refine doneM (by kernel_rfl) ?_ _
        obtain ⟨q, hq⟩ : ∃ q, q = wr.heap.size := ⟨_, rfl⟩
        have hqs : wr.heap.size ≤ q := by rw [hq]; exact Nat.le_refl _
        have KB := Aside0.mk (show wa.heap[q]? = some (.cells (kc K4) 26 (0, 0)) by rw [hq]; exact P1.at_)
        rw [← hq]
        clear hq P1 S4 HB4 S0 NF C4
      all_goals
        have G0 := Aside0.mk (blk_to F0.out WB.out)
        have hCa := Kd.C_below HC2.out WB.out
        have HCa := Aside0.mk hCa
        obtain ⟨ad', c', e', hlen', hK', hc'⟩ := Kd.C_get hCa z47 (i : Int) (by omega) (by omega)
        obtain rfl := Option.some.inj e'
        have hxe : l.getD ((i : Int).toNat) z47 = x := by rw [HX.out]; rfl
        rw [hxe] at hK'
        have ec := k47_cs c' hK'
        subst ec
        have c0 : wa.cell? (ad.add (i * 2)) = some (.int .i64 x.f0) := hc' 0 _ rfl
        have c1 : wa.cell? ⟨(ad.add (i * 2)).block, (ad.add (i * 2)).off + 1, none⟩ = some (.int .i64 x.f1) := by have h := hc' 1 _ rfl; rw [← Addr.add_add] at h; exact h
        have hs0 : ∀ w', SO wa none w' → w'.cell? (ad.add (i * 2)) = some (.int .i64 x.f0) := fun w' hw' => by
          have hb := World.block_lt_of_cell? wa _ c0
          have := hw'.blk _ hb (by simp)
          rw [← c0]; unfold World.cell?; rw [this]
        have hs1 : ∀ w', SO wa none w' → w'.cell? ⟨(ad.add (i * 2)).block, (ad.add (i * 2)).off + 1, none⟩ = some (.int .i64 x.f1) := fun w' hw' => by
          have hb := World.block_lt_of_cell? wa _ c1
          have := hw'.blk _ hb (by simp)
          rw [← c1]; unfold World.cell?; rw [this]
        have HS0 := Aside0.mk hs0; have HS1 := Aside0.mk hs1
        clear e' hlen' hK' hc' hxe hCa hs0 hs1 c0
        by_cases hx1 : x.f1 = 0
        case' pos =>
          have b9 : (x.f1 != 0) = false := by simp [hx1]
          have HKz := Aside0.mk (show lblS a0 root x = ⟨x.f0, x.f1, K4⟩ by
            rw [HK4.out]; unfold lblS; rw [if_pos hx1, hx1]; unfold keyI; simp)
          clear hx1
          go_wp2_with fail
          obtain ⟨wz, hwz⟩ : ∃ wz, wz = wa := ⟨_, rfl⟩
          subst hwz
          obtain ⟨Kz, hKz⟩ : ∃ Kz, Kz = K4 := ⟨_, rfl⟩
          subst hKz
          have WBz := WB; have KBz := KB
        case' neg =>
          have b9 : (x.f1 != 0) = true := by simp [hx1]
          have HLc := Aside0.mk (fun W => label_calls root HKR.out x.f0 x.f1 ((pathF 9 x.f0 x.f1).getD []) (HPX.out hx1) W)
          obtain ⟨K6, hK6e⟩ : ∃ K6, K6 = descK (nodeK root x.f0) ((pathF 9 x.f0 x.f1).getD []) := ⟨_, rfl⟩
          rw [← hK6e] at HLc
          have HKz := Aside0.mk (show lblS a0 root x = ⟨x.f0, x.f1, K6⟩ by rw [hK6e]; unfold lblS; rw [if_neg hx1])
          clear hx1 hK6e
          go_wp2_with fail
          refine beginB none 12 13 rfl (by repeat (first | exact nf_body | refine nf_then ?_ | refine nf_block ?_)) (fun NF S0 => ?_)
          refine takeR 0 35 rfl (by kernel_rfl) (by kernel_rfl) (by kernel_rfl) (by kernel_rfl) rfl rfl rfl G0.out (by simp) NF S0 rfl row26 ?_; (try simp only [Act.put, List.setIfInBounds_toArray, List.set_cons_zero, List.set_cons_succ])
          refine takeY 1 36 (.slice (some ad) l.length c) rfl (by kernel_rfl) (by kernel_rfl) (by kernel_rfl) (by kernel_rfl) rfl rfl NF S0 (fun w' hw' => by go_simp) ?_; (try simp only [Act.put, List.setIfInBounds_toArray, List.set_cons_zero, List.set_cons_succ])
          refine takeY 2 37 (.int .i64 i) rfl (by kernel_rfl) (by kernel_rfl) (by kernel_rfl) (by kernel_rfl) rfl rfl NF S0 (fun w' hw' => by go_simp) ?_; (try simp only [Act.put, List.setIfInBounds_toArray, List.set_cons_zero, List.set_cons_succ])
          refine takeY 3 38 (.pointer (some (ad.add (i * 2)))) rfl (by kernel_rfl) (by kernel_rfl) (by kernel_rfl) (by kernel_rfl) rfl rfl NF S0 (fun w' hw' => by go_simp) ?_; (try simp only [Act.put, List.setIfInBounds_toArray, List.set_cons_zero, List.set_cons_succ])
          refine takeY 4 39 (.pointer (some (ad.add (i * 2)))) rfl (by kernel_rfl) (by kernel_rfl) (by kernel_rfl) (by kernel_rfl) rfl rfl NF S0 (fun w' hw' => by go_simp) ?_; (try simp only [Act.put, List.setIfInBounds_toArray, List.set_cons_zero, List.set_cons_succ])
          refine takeY 5 40 (.int .i64 x.f0) rfl (by kernel_rfl) (by kernel_rfl) (by kernel_rfl) (by kernel_rfl) rfl rfl NF S0 (fun w' hw' => by have c := HS0.out w' hw'; go_simp) ?_; (try simp only [Act.put, List.setIfInBounds_toArray, List.set_cons_zero, List.set_cons_succ])
          refine takeY 6 41 (.slice (some ad) l.length c) rfl (by kernel_rfl) (by kernel_rfl) (by kernel_rfl) (by kernel_rfl) rfl rfl NF S0 (fun w' hw' => by go_simp) ?_; (try simp only [Act.put, List.setIfInBounds_toArray, List.set_cons_zero, List.set_cons_succ])
          refine takeY 7 42 (.int .i64 i) rfl (by kernel_rfl) (by kernel_rfl) (by kernel_rfl) (by kernel_rfl) rfl rfl NF S0 (fun w' hw' => by go_simp) ?_; (try simp only [Act.put, List.setIfInBounds_toArray, List.set_cons_zero, List.set_cons_succ])
          refine takeY 8 43 (.pointer (some (ad.add (i * 2)))) rfl (by kernel_rfl) (by kernel_rfl) (by kernel_rfl) (by kernel_rfl) rfl rfl NF S0 (fun w' hw' => by go_simp) ?_; (try simp only [Act.put, List.setIfInBounds_toArray, List.set_cons_zero, List.set_cons_succ])
          refine takeY 9 44 (.pointer (some ⟨(ad.add (i * 2)).block, (ad.add (i * 2)).off + 1, none⟩)) rfl (by kernel_rfl) (by kernel_rfl) (by kernel_rfl) (by kernel_rfl) rfl rfl NF S0 (fun w' hw' => by go_simp) ?_; (try simp only [Act.put, List.setIfInBounds_toArray, List.set_cons_zero, List.set_cons_succ])
          refine takeY 10 45 (.int .i64 x.f1) rfl (by kernel_rfl) (by kernel_rfl) (by kernel_rfl) (by kernel_rfl) rfl rfl NF S0 (fun w' hw' => by have c := HS1.out w' hw'; go_simp) ?_; (try simp only [Act.put, List.setIfInBounds_toArray, List.set_cons_zero, List.set_cons_succ])
          refine nextM 11 (by kernel_rfl) rfl (fun K11 hK11 => ?_)
          go_simp
          go_at_call 142
          refine (HLc.out _).mono ?_
          rintro e5 w5 ⟨rfl, hb5⟩
          have S5 := S0.below hb5
          refine hK11.out _ _ (fun _ => S5) ?_
          (try simp only [Act.put, List.setIfInBounds_toArray, List.set_cons_zero, List.set_cons_succ])
          refine nextM 12 (by kernel_rfl) rfl (fun K12 hK12 => ?_)
          rw [if_pos (by rfl)]
          have KB5 := Aside0.mk (blk_to (blk_drew KB.out) hb5)
          refine wp_stR (ty := 26) rfl KB5.out (kc K6) rfl rfl row26 rfl rfl (fun wb P2 => ?_)
          refine hK12.out _ _ (fun h => Bool.noConfusion (h : false = true)) ?_
          show AnyM _ _ _ _ _ _ _ _ (Act.put _ none undef) _
          (try simp only [Act.put, List.setIfInBounds_toArray, List.set_cons_zero, List.set_cons_succ])
          refine doneM (by kernel_rfl) ?_ _
          have WB2 := Aside0.mk (show Below wr.heap.size wr wb from P2.below ((WB.out.drew).trans (hb5.mono WB.out.size)) hqs)
          have KB2 := Aside0.mk P2.at_
          clear S0 S5 NF hb5 KB5 P2
          go_wp2_with fail
          obtain ⟨wz, hwz⟩ : ∃ wz, wz = wb := ⟨_, rfl⟩
          subst hwz
          obtain ⟨Kz, hKz⟩ : ∃ Kz, Kz = K6 := ⟨_, rfl⟩
          subst hKz
          have WBz := WB2; have KBz := KB2
        all_goals
          have HGz := Aside0.mk (blk_to HG.out WBz.out)
          have RZ := Aside0.mk (Kd.R_below (Kd.R_below HR.out WBz.out) ((Below.refl _ _).drew))
          have BZ := Aside0.mk (show Below w1.heap.size wr wz.drew from (WBz.out.mono hws).drew)
          obtain ⟨nb, hnb⟩ : ∃ nb, nb = v.ownBlock := ⟨_, rfl⟩
          have own : ∀ j, j < w1.heap.size → some j ≠ nb := fun j hj e => by have := HR.out.1 j (hnb ▸ e.symm); omega
          have ownq : some q ≠ nb := fun e => by have := ((Kd.R_bound HR.out).1 q (hnb ▸ e.symm)).2.2.1; omega
          have NB := Aside0.mk hnb
          obtain ⟨_, _, hC1⟩ := Kd.R_reads' EL.out
          obtain ⟨ad', c', e', hlen', hK', hc'⟩ := Kd.C_get hC1 z47 (i : Int) (by omega) (by omega)
          obtain rfl := Option.some.inj e'
          have hxe : l.getD ((i : Int).toNat) z47 = x := by rw [HX.out]; rfl
          rw [hxe] at hK'
          have ec := k47_cs c' hK'
          subst ec
          have d0 : w1.cell? (ad.add (i * 2)) = some (.int .i64 x.f0) := hc' 0 _ rfl
          have d1 : w1.cell? ⟨(ad.add (i * 2)).block, (ad.add (i * 2)).off + 1, none⟩ = some (.int .i64 x.f1) := by have h := hc' 1 _ rfl; rw [← Addr.add_add] at h; exact h
          have hdb : (ad.add (i * 2)).block < w1.heap.size := World.block_lt_of_cell? w1 _ d0
          clear e' hlen' hK' hc' hxe hC1 d0 d1
          have hCz := Kd.C_below HC2.out WBz.out
          obtain ⟨ad', c', e', hlen', hK', hc'⟩ := Kd.C_get hCz z47 (i : Int) (by omega) (by omega)
          obtain rfl := Option.some.inj e'
          have hxe : l.getD ((i : Int).toNat) z47 = x := by rw [HX.out]; rfl
          rw [hxe] at hK'
          have ec := k47_cs c' hK'
          subst ec
          have d0 : wz.cell? (ad.add (i * 2)) = some (.int .i64 x.f0) := hc' 0 _ rfl
          have d1 : wz.cell? ⟨(ad.add (i * 2)).block, (ad.add (i * 2)).off + 1, none⟩ = some (.int .i64 x.f1) := by have h := hc' 1 _ rfl; rw [← Addr.add_add] at h; exact h
          have hs0 : ∀ w', SO wz nb w' → w'.cell? (ad.add (i * 2)) = some (.int .i64 x.f0) := fun w' hw' => by
            have hb := World.block_lt_of_cell? wz _ d0
            have := hw'.blk _ hb (own _ hdb)
            rw [← d0]; unfold World.cell?; rw [this]
          have hs1 : ∀ w', SO wz nb w' → w'.cell? ⟨(ad.add (i * 2)).block, (ad.add (i * 2)).off + 1, none⟩ = some (.int .i64 x.f1) := fun w' hw' => by
            have hb := World.block_lt_of_cell? wz _ d1
            have := hw'.blk _ hb (own _ hdb)
            rw [← d1]; unfold World.cell?; rw [this]
          have HT0 := Aside0.mk hs0; have HT1 := Aside0.mk hs1
          clear e' hlen' hK' hc' hxe hCz hs0 hs1 d0 d1 hnb
          refine beginB nb 17 18 rfl (by repeat (first | exact nf_body | refine nf_then ?_ | refine nf_block ?_)) (fun NF S0 => ?_)
          refine takeY 0 47 (.pointer (some ⟨g, 1, none⟩)) rfl (by kernel_rfl) (by kernel_rfl) (by kernel_rfl) (by kernel_rfl) rfl rfl NF S0 (fun w' hw' => by go_simp) ?_; (try simp only [Act.put, List.setIfInBounds_toArray, List.set_cons_zero, List.set_cons_succ])
          refine takeY 1 48 v rfl (by kernel_rfl) (by kernel_rfl) (by kernel_rfl) (by kernel_rfl) rfl rfl NF S0 (fun w' hw' => by have c := cat (hw'.at_ HGz.out (own _ (by omega))) 1 v rfl; go_simp) ?_; (try simp only [Act.put, List.setIfInBounds_toArray, List.set_cons_zero, List.set_cons_succ])
          refine takeY 2 49 (.slice (some ad) l.length c) rfl (by kernel_rfl) (by kernel_rfl) (by kernel_rfl) (by kernel_rfl) rfl rfl NF S0 (fun w' hw' => by go_simp) ?_; (try simp only [Act.put, List.setIfInBounds_toArray, List.set_cons_zero, List.set_cons_succ])
          refine takeY 3 50 (.int .i64 i) rfl (by kernel_rfl) (by kernel_rfl) (by kernel_rfl) (by kernel_rfl) rfl rfl NF S0 (fun w' hw' => by go_simp) ?_; (try simp only [Act.put, List.setIfInBounds_toArray, List.set_cons_zero, List.set_cons_succ])
          refine takeY 4 51 (.pointer (some (ad.add (i * 2)))) rfl (by kernel_rfl) (by kernel_rfl) (by kernel_rfl) (by kernel_rfl) rfl rfl NF S0 (fun w' hw' => by go_simp) ?_; (try simp only [Act.put, List.setIfInBounds_toArray, List.set_cons_zero, List.set_cons_succ])
          refine takeY 5 52 (.pointer (some (ad.add (i * 2)))) rfl (by kernel_rfl) (by kernel_rfl) (by kernel_rfl) (by kernel_rfl) rfl rfl NF S0 (fun w' hw' => by go_simp) ?_; (try simp only [Act.put, List.setIfInBounds_toArray, List.set_cons_zero, List.set_cons_succ])
          refine takeY 6 53 (.int .i64 x.f0) rfl (by kernel_rfl) (by kernel_rfl) (by kernel_rfl) (by kernel_rfl) rfl rfl NF S0 (fun w' hw' => by have c := HT0.out w' hw'; go_simp) ?_; (try simp only [Act.put, List.setIfInBounds_toArray, List.set_cons_zero, List.set_cons_succ])
          refine takeY 7 54 (.slice (some ad) l.length c) rfl (by kernel_rfl) (by kernel_rfl) (by kernel_rfl) (by kernel_rfl) rfl rfl NF S0 (fun w' hw' => by go_simp) ?_; (try simp only [Act.put, List.setIfInBounds_toArray, List.set_cons_zero, List.set_cons_succ])
          refine takeY 8 55 (.int .i64 i) rfl (by kernel_rfl) (by kernel_rfl) (by kernel_rfl) (by kernel_rfl) rfl rfl NF S0 (fun w' hw' => by go_simp) ?_; (try simp only [Act.put, List.setIfInBounds_toArray, List.set_cons_zero, List.set_cons_succ])
          refine takeY 9 56 (.pointer (some (ad.add (i * 2)))) rfl (by kernel_rfl) (by kernel_rfl) (by kernel_rfl) (by kernel_rfl) rfl rfl NF S0 (fun w' hw' => by go_simp) ?_; (try simp only [Act.put, List.setIfInBounds_toArray, List.set_cons_zero, List.set_cons_succ])
          refine takeY 10 57 (.pointer (some ⟨(ad.add (i * 2)).block, (ad.add (i * 2)).off + 1, none⟩)) rfl (by kernel_rfl) (by kernel_rfl) (by kernel_rfl) (by kernel_rfl) rfl rfl NF S0 (fun w' hw' => by go_simp) ?_; (try simp only [Act.put, List.setIfInBounds_toArray, List.set_cons_zero, List.set_cons_succ])
          refine takeY 11 58 (.int .i64 x.f1) rfl (by kernel_rfl) (by kernel_rfl) (by kernel_rfl) (by kernel_rfl) rfl rfl NF S0 (fun w' hw' => by have c := HT1.out w' hw'; go_simp) ?_; (try simp only [Act.put, List.setIfInBounds_toArray, List.set_cons_zero, List.set_cons_succ])
          refine takeR 12 59 rfl (by kernel_rfl) (by kernel_rfl) (by kernel_rfl) (by kernel_rfl) rfl rfl rfl KBz.out ownq NF S0 rfl row26 ?_; (try simp only [Act.put, List.setIfInBounds_toArray, List.set_cons_zero, List.set_cons_succ])
          refine takeY 13 60 (lv x.f0 x.f1 Kz) rfl (by kernel_rfl) (by kernel_rfl) (by kernel_rfl) (by kernel_rfl) rfl rfl NF S0 (fun w' hw' => by go_simp) ?_; (try simp only [Act.put, List.setIfInBounds_toArray, List.set_cons_zero, List.set_cons_succ])
          refine nextM 14 (by kernel_rfl) rfl (fun K14 hK14 => ?_)
          go_simp
          refine hK14.out _ _ (fun _ => S0.below ((Below.refl _ _).alloc (Nat.le_refl _) _)) ?_
          (try simp only [Act.put, List.setIfInBounds_toArray, List.set_cons_zero, List.set_cons_succ])
          have hl5 : ((List.take i l).map (lblS a0 root)).length ≤ 64 := by rw [List.length_map, List.length_take]; have := H64.out; omega
          have hz5 : w1.heap.size ≤ wz.drew.heap.size := by have := WBz.out.size; show w1.heap.size ≤ wz.heap.size; omega
          refine nextM 15 (by kernel_rfl) rfl (fun K15 hK15 => ?_)
          refine Kd.R_append_step k83 (w0 := wr) w1.heap.size (by rfl) _ _ 72 83 (.agg (lc 0 0 z26)) 32 rfl Try.underlying72 info83 rfl (by decide) (by decide) v ((l.take i).map (lblS a0 root)) ⟨x.f0, x.f1, Kz⟩ (lc x.f0 x.f1 Kz).toList (fun j => w1.heap.size ≤ j) (fun _ => False) rfl rfl (k83_mkM _ _ _ ⟨x.f0, x.f1, Kz⟩) (fun _ h => h.elim) (fun j hj => by omega) RZ.out BZ.out hz5 (by omega) ?_
          intro v1 w6 hR6 hB6 hg6 hat6
          obtain ⟨A6, n8, n6, rfl⟩ : ∃ A n m, v1 = .slice A n m := by obtain ⟨A, m, h⟩ := Kd.R_slice hR6; exact ⟨A, _, m, h⟩
          have S6 : SO wz nb w6 := S0.grown (NB.out ▸ hg6)
          have R6 := Aside0.mk hR6; have B6 := Aside0.mk hB6
          have GG6 := Aside0.mk (S6.at_ HGz.out (own _ (by omega)))
          clear hR6 hB6 hg6 hat6
          refine hK15.out _ _ (fun _ => S6) ?_
          (try simp only [Act.put, List.setIfInBounds_toArray, List.set_cons_zero, List.set_cons_succ])
          refine takeY 16 63 (.pointer (some ⟨g, 1, none⟩)) rfl (by kernel_rfl) (by kernel_rfl) (by kernel_rfl) (by kernel_rfl) rfl rfl NF S6 (fun w' hw' => by go_simp) ?_; (try simp only [Act.put, List.setIfInBounds_toArray, List.set_cons_zero, List.set_cons_succ])
          have c6 := cat GG6.out 1 v rfl
          have f6 := blk_frozen GG6.out 1
          refine nextM 17 (by kernel_rfl) rfl (fun K17 hK17 => ?_)
          go_simp
          refine hK17.out _ _ (fun h => Bool.noConfusion (h : false = true)) ?_
          refine doneM (by kernel_rfl) ?_ _
          have hS6 : wz.heap.size ≤ w6.heap.size := S6.size
          clear S0 S6 own ownq NF
          go_wp2
          obtain ⟨gq, rfl⟩ : ∃ gq, gk = gq + 1 := ⟨gk - 1, by have := HI'.out; have := HI.out; omega⟩
          go_roundg gq
          case measure => omega
          case rel =>
            refine ⟨i + 1, _, by simp, ⟨by have := HI.out; omega⟩, ⟨blk_put GG6.out 1 _ rfl⟩, ⟨?_⟩, ⟨?_⟩, ⟨(HB.out.trans (B6.out.mono (by omega))).setCell (p := ⟨g, 1, none⟩) (Nat.le_refl _) _⟩⟩
            · have e : (l.take (i + 1)).map (lblS a0 root) = (l.take i).map (lblS a0 root) ++ [⟨x.f0, x.f1, Kz⟩] := by
                rw [drop_cons' l i HI'.out z47, ← HX.out, List.map_append, List.map_singleton, HKz.out]
              rw [e]
              exact Kd.R_far R6.out (p := ⟨g, 1, none⟩) (fun j hj => by show j ≠ g; omega) _
            · exact Kd.R_mono (Kd.R_step (Kd.R_bound HL.out) (fun j hj _ => (Below.heap_setCell _ ⟨g, 1, none⟩ _ j (by have := hj.2.1; show j ≠ g; omega)).trans (B6.out.block j hj.1))) (fun j hj => hj.1)
    · have hi2 : i = l.length := by have := HI.out; omega
      subst hi2
      obtain ⟨A7, n8, n7, rfl⟩ : ∃ A n m, v = .slice A n m := by obtain ⟨A, m, h⟩ := Kd.R_slice HR.out; exact ⟨A, _, m, h⟩
      have b2 : ¬ ((l.length : Int) < (l.length : Int)) := by omega
      go_wp2_with (first
        | ((with_reducible refine ldR rfl rfl HG.out ?_ ?_ ?_); rfl; exact row76)
        | ((with_reducible refine stR rfl rfl F2.out (sc u A7 n8 n7 0 0) ?_ ?_ ?_ ?_ ?_ ?_); rfl; rfl; exact row76; rfl; rfl; intro W4 P1))
      refine bodyPost_ret (results_cell_row rfl _ _ _ 76 _ (0, 0) _ rfl P1.at_ Try.underlying76 rfl (by kernel_rfl)) rfl ?_
      refine ⟨A7, n8, n7, rfl, ?_, P1.below FB.out (by omega)⟩
      have h1 := Kd.R_step (w1 := W4) HR.out (fun j hj _ => P1.oth j (by omega))
      rw [List.take_length] at h1
      exact Kd.R_mono (Kd.R_lower h1 (by omega)) (fun _ _ => trivial)
end Go.Proofs.Ytafhimeoijmolaa.K
