/- Texts of this claim, one behind the other, as far as they are used: KI, KO, KU, KW. -/
import Derived.Test.YtafhimeoijmolaaCoverSealsM1
import Derived.Test.YtafhimeoijmolaaCoverSealsM2
import Derived.Test.YtafhimeoijmolaaCoverSealsM3
import Derived.Test.YtafhimeoijmolaaCoverSealsM6
import Derived.Test.YtafhimeoijmolaaCoverSealsM8
import Derived.Test.YtafhimeoijmolaaCoverSealsM9
import Derived.Test.YtafhimeoijmolaaCoverSealsM10
namespace Go.Proofs.Ytafhimeoijmolaa.K
open Go.RowKit  Go.Proofs.YtafhimeoijmolaaW.PrintWords Go.Proofs.YtafhimeoijmolaaW.PrintLast Go.Proofs.YtafhimeoijmolaaW.PrintMore Go.Proofs.Ytafhimeoijmolaa.G
set_option linter.unusedVariables false
set_option linter.unusedSimpArgs false
def stepK (k : S26) (x : Int) : S26 := derK k (if Int.tmod x 2 = 1 then 32 else 31) 0
theorem stepK_ok (k : S26) (x : Int) : KOK (stepK k x) := derK_ok _ _ _
theorem wok0 : WOK 0 := by unfold WOK; omega
set_option maxHeartbeats 4000000 in
set_option maxRecDepth 100000 in
theorem step_calls (k : S26) (hk : KOK k) (x : Int) (hx : 0 ≤ x) (w : World) :
    Calls Try.prog 169 #[kv k, .int .i64 x] w fun e w' => e = .returned (kv (stepK k x)) ∧ Below w.heap.size w w' := by
  obtain ⟨W0, hW0⟩ : ∃ W0, ((w.alloc (.cells (kc k) 26)).alloc (.cells (kc z26) 26)) = W0 := ⟨_, rfl⟩
  have B0 := Aside0.mk (show W0.heap[w.heap.size]? = some (.cells (kc k) 26 (0, 0)) by rw [← hW0]; exact (blk_alloc (newAt rfl) _))
  have B1 := Aside0.mk (show W0.heap[w.heap.size + 1]? = some (.cells (kc z26) 26 (0, 0)) by rw [← hW0]; exact (newAt (by simp)))
  have BB := Aside0.mk (show Below w.heap.size w W0 by rw [← hW0]; exact (((Below.refl _ w).alloc (Nat.le_refl _) _).alloc (by simp) _))
  have BBs := Aside0.mk (show w.heap.size + 2 = W0.heap.size by rw [← hW0]; simp)
  have HW := Aside0.mk hW0
  clear hW0
  have HK := Aside0.mk hk
  have HX := Aside0.mk hx
  obtain ⟨R, hR⟩ : ∃ R, R = stepK k x := ⟨_, rfl⟩
  rw [← hR]
  have HR := Aside0.mk hR
  clear hk hR
  by_cases h0 : Int.tmod x 2 = 0
  · have b0 : (Int.tmod x 2 == 0) = true := beq_iff_eq.mpr h0
    have b1 : (x % 2 == 0) = true := by rw [Int.tmod_eq_emod_of_nonneg hx] at h0; exact beq_iff_eq.mpr h0
    have E1 := Aside0.mk (show R = derK k 31 0 by rw [HR.out]; unfold stepK; rw [if_neg (by omega)])
    clear h0 HR
    go_enter Try.func169, Try.ntmps169
    go_wp2_with fail
    go_at_call 89
    refine (rDerive_calls k 31 0 HK.out (by omega) wok0 _).mono ?_
    have e0 := HW.out
    rintro e1 w1 ⟨rfl, hb1⟩
    have hb1' : Below W0.heap.size W0 w1 := by rw [← e0]; exact hb1
    have C1 := Aside0.mk (blk_to B1.out hb1')
    have CB := Aside0.mk (BB.out.trans (hb1'.mono BB.out.size))
    obtain ⟨K, hK⟩ : ∃ K, K = derK k 31 0 := ⟨_, rfl⟩
    rw [← hK]
    have HK1 := Aside0.mk hK
    clear hb1 hb1' e0 hK
    go_wp2_with (first | ((with_reducible refine stR rfl rfl C1.out (kc K) ?_ ?_ ?_ ?_ ?_ ?_); rfl; rfl; exact row26; rfl; rfl; intro W2 P1))
    refine bodyPost_ret (results_cell_row rfl _ _ _ 26 _ (0, 0) _ rfl P1.at_ Try.underlying26 rfl (by kernel_rfl)) rfl ?_
    exact ⟨by rw [E1.out, HK1.out], P1.below CB.out (by omega)⟩
  · have b0 : (Int.tmod x 2 == 0) = false := beq_eq_false_iff_ne.mpr h0
    have b1 : (x % 2 == 0) = false := by rw [Int.tmod_eq_emod_of_nonneg hx] at h0; exact beq_eq_false_iff_ne.mpr h0
    have E1 := Aside0.mk (show R = derK k 32 0 by rw [HR.out]; unfold stepK; rw [if_pos (by rw [Int.tmod_eq_emod_of_nonneg hx] at *; omega)])
    clear h0 HR
    go_enter Try.func169, Try.ntmps169
    go_wp2_with fail
    go_at_call 89
    refine (rDerive_calls k 32 0 HK.out (by omega) wok0 _).mono ?_
    have e0 := HW.out
    rintro e1 w1 ⟨rfl, hb1⟩
    have hb1' : Below W0.heap.size W0 w1 := by rw [← e0]; exact hb1
    have C1 := Aside0.mk (blk_to B1.out hb1')
    have CB := Aside0.mk (BB.out.trans (hb1'.mono BB.out.size))
    obtain ⟨K, hK⟩ : ∃ K, K = derK k 32 0 := ⟨_, rfl⟩
    rw [← hK]
    have HK1 := Aside0.mk hK
    clear hb1 hb1' e0 hK
    go_wp2_with (first | ((with_reducible refine stR rfl rfl C1.out (kc K) ?_ ?_ ?_ ?_ ?_ ?_); rfl; rfl; exact row26; rfl; rfl; intro W2 P1))
    refine bodyPost_ret (results_cell_row rfl _ _ _ 26 _ (0, 0) _ rfl P1.at_ Try.underlying26 rfl (by kernel_rfl)) rfl ?_
    exact ⟨by rw [E1.out, HK1.out], P1.below CB.out (by omega)⟩
theorem descK_step (k : S26) (xs : List Int) (x : Int) : descK k (xs ++ [x]) = stepK (descK k xs) x := by unfold descK stepK; rw [List.foldl_append]; rfl
set_option maxHeartbeats 4000000 in
set_option maxRecDepth 100000 in
theorem down_calls (k : S26) (hk : KOK k) (f t : Int) (p : List Int) (hpos : ∀ x ∈ p, 0 ≤ x) (h1 : 1 ≤ p.length) (kk : Nat) (hp : headendref03_Path.f kk f t = some p) (w : World) :
    Calls Try.prog 148 #[kv k, .int .i64 f, .int .i64 t] w fun e w' => e = .returned (kv (descK k (p.drop 1))) ∧ Below w.heap.size w w' := by
  obtain ⟨W0, hW0⟩ : ∃ W0, ((w.alloc (.cells (kc k) 26)).alloc (.cells (kc z26) 26)) = W0 := ⟨_, rfl⟩
  have B0 := Aside0.mk (show W0.heap[w.heap.size]? = some (.cells (kc k) 26 (0, 0)) by rw [← hW0]; exact (blk_alloc (newAt rfl) _))
  have B1 := Aside0.mk (show W0.heap[w.heap.size + 1]? = some (.cells (kc z26) 26 (0, 0)) by rw [← hW0]; exact (newAt (by simp)))
  have BB := Aside0.mk (show Below w.heap.size w W0 by rw [← hW0]; exact (((Below.refl _ w).alloc (Nat.le_refl _) _).alloc (by simp) _))
  have BBs := Aside0.mk (show w.heap.size + 2 = W0.heap.size by rw [← hW0]; simp)
  have HW := Aside0.mk hW0
  clear hW0
  have HK := Aside0.mk hk; have HP := Aside0.mk hpos
  have e0 := HW.out
  obtain ⟨R, hR⟩ : ∃ R, R = descK k (p.drop 1) := ⟨_, rfl⟩
  rw [← hR]
  have HR := Aside0.mk hR
  clear hR
  go_enter Try.func148, Try.ntmps148
  go_wp2_with fail
  go_at_call 114
  refine (headendref03_Path.calls kk f t p _ hp).mono ?_
  rintro e1 w1 ⟨v1, rfl, hr1, hb1⟩
  have hb1' : Below W0.heap.size W0 w1 := by rw [← e0]; exact hb1
  have hr1' : Kd.R (Kd.int .i64) 3 w1 W0.heap.size (fun _ => True) v1 p := by rw [← e0]; exact hr1
  have C0 := Aside0.mk (blk_to B0.out hb1'); have C1 := Aside0.mk (blk_to B1.out hb1')
  have CB := Aside0.mk (BB.out.trans (hb1'.mono BB.out.size))
  have CR := Aside0.mk hr1'
  obtain ⟨A, c, rfl, hlc, hC⟩ := Kd.R_reads hr1'
  have hlen : p.length ≤ 9223372036854775807 := hC.2.1
  have HW0 := BBs.out
  clear hb1 hb1' hr1 hr1' e0 hpos hk hp hlc hC B0 B1 BB BBs HW
  go_wp2
  go_loopg [8] p.length (fun kq v8 w' => ∃ (i : Nat), v8 = .int .i64 (i : Int) ∧ Aside0 ((1 ≤ i ∧ i ≤ p.length) ∧ i + kq = p.length + 1) ∧ Aside0 (w'.heap[w.heap.size]? = some (.cells (kc (descK k ((p.take i).drop 1))) 26 (0, 0))) ∧ Aside0 (KOK (descK k ((p.take i).drop 1))) ∧ Aside0 (w'.heap[w.heap.size + 1]? = some (.cells (kc z26) 26 (0, 0))) ∧ Aside0 (Kd.R (Kd.int .i64) 3 w' W0.heap.size (fun _ => True) (.slice A p.length c) p) ∧ Aside0 (Below w.heap.size w w'))
  case atStart =>
    refine ⟨1, rfl, ⟨⟨Nat.le_refl _, h1⟩, by omega⟩, ?_, ?_, C1, CR, CB⟩
    · match p, h1 with
      | a :: l, _ => exact C0
    · match p, h1 with
      | a :: l, _ => exact HK
  case round =>
    obtain ⟨i, rfl, HI, D0, DK, D1, DR, DB⟩ := hrel
    obtain ⟨K, hK⟩ : ∃ K, K = descK k ((p.take i).drop 1) := ⟨_, rfl⟩
    rw [← hK] at D0 DK
    have HKK := Aside0.mk hK
    clear hK
    by_cases hi : i < p.length
    · have HI' := Aside0.mk hi
      obtain ⟨x, hx⟩ : ∃ x, x = p.getD i 0 := ⟨_, rfl⟩
      have HX := Aside0.mk hx
      obtain ⟨_, _, hC⟩ := Kd.R_reads' DR.out
      obtain ⟨ad, rfl, hc⟩ := at_ints hC i (by omega)
      rw [← hx] at hc
      have HC := Aside0.mk hC
      have b2 : (i : Int) < (p.length : Int) := by omega
      have hx0 : 0 ≤ x := by rw [hx]; exact HP.out _ (by simp [hi])
      have hcs : ∀ w', SO wr none w' → w'.cell? (ad.add i) = some (.int .i64 x) := fun w' hw' => by
        have hb := World.block_lt_of_cell? wr _ hc
        have := hw'.blk _ hb (by simp)
        rw [← hc]; unfold World.cell?; rw [this]
      have HCS := Aside0.mk hcs
      have HX0 := Aside0.mk hx0
      clear hx hi hC hcs hx0
      go_wp2_with fail
      refine beginB none 6 7 rfl (by repeat (first | exact nf_body | refine nf_then ?_ | refine nf_block ?_)) (fun NF S0 => ?_)
      refine takeR 0 18 rfl (by kernel_rfl) (by kernel_rfl) (by kernel_rfl) (by kernel_rfl) rfl rfl rfl D0.out (by simp) NF S0 rfl row26 ?_; (try simp only [Act.put, List.setIfInBounds_toArray, List.set_cons_zero, List.set_cons_succ])
      refine takeY 1 19 (.slice (some ad) p.length c) rfl (by kernel_rfl) (by kernel_rfl) (by kernel_rfl) (by kernel_rfl) rfl rfl NF S0 (fun w' hw' => by go_simp) ?_; (try simp only [Act.put, List.setIfInBounds_toArray, List.set_cons_zero, List.set_cons_succ])
      refine takeY 2 20 (.int .i64 i) rfl (by kernel_rfl) (by kernel_rfl) (by kernel_rfl) (by kernel_rfl) rfl rfl NF S0 (fun w' hw' => by go_simp) ?_; (try simp only [Act.put, List.setIfInBounds_toArray, List.set_cons_zero, List.set_cons_succ])
      refine takeY 3 21 (.pointer (some (ad.add i))) rfl (by kernel_rfl) (by kernel_rfl) (by kernel_rfl) (by kernel_rfl) rfl rfl NF S0 (fun w' hw' => by go_simp) ?_; (try simp only [Act.put, List.setIfInBounds_toArray, List.set_cons_zero, List.set_cons_succ])
      refine takeY 4 22 (.int .i64 x) rfl (by kernel_rfl) (by kernel_rfl) (by kernel_rfl) (by kernel_rfl) rfl rfl NF S0 (fun w' hw' => by have c := HCS.out w' hw'; go_simp) ?_; (try simp only [Act.put, List.setIfInBounds_toArray, List.set_cons_zero, List.set_cons_succ])
      refine nextM 5 (by kernel_rfl) rfl (fun K5 hK5 => ?_)
      go_simp
      go_at_call 169
      refine (step_calls K DK.out x HX0.out _).mono ?_
      obtain ⟨K2, hK2⟩ : ∃ K2, K2 = stepK K x := ⟨_, rfl⟩
      rw [← hK2]
      have HK2 := Aside0.mk hK2
      clear hK2
      rintro e2 w2 ⟨rfl, hb2⟩
      have S2 := S0.below hb2
      refine hK5.out _ _ (fun _ => S2) ?_
      (try simp only [Act.put, List.setIfInBounds_toArray, List.set_cons_zero, List.set_cons_succ])
      refine nextM 6 (by kernel_rfl) rfl (fun K6 hK6 => ?_)
      rw [if_pos (by rfl)]
      have F0 := Aside0.mk (blk_to (blk_drew D0.out) hb2)
      refine wp_stR (ty := 26) rfl F0.out (kc K2) rfl rfl row26 rfl rfl (fun W2 P1 => ?_)
      refine hK6.out _ _ (fun h => Bool.noConfusion (h : false = true)) ?_
      refine doneM (by kernel_rfl) ?_ _
      have F1 := Aside0.mk (P1.blk (blk_to (blk_drew D1.out) hb2) (by omega))
      have FB := Aside0.mk (P1.below ((DB.out.drew).trans (hb2.mono DB.out.size)) (Nat.le_refl _))
      have FR := Aside0.mk (Kd.R_step (w1 := W2) (Kd.R_bound (Kd.R_below (Kd.R_below DR.out ((Below.refl _ _).drew)) hb2)) (fun j hj _ => P1.oth j (by have := hj.2.1; omega)))
      have FA := Aside0.mk P1.at_
      clear S0 S2 NF hb2 P1
      go_wp2
      obtain ⟨gq, rfl⟩ : ∃ gq, gk = gq + 1 := ⟨gk - 1, by have := HI'.out; have := HI.out; omega⟩
      go_roundg gq
      case measure => omega
      case rel =>
        have e : (p.take (i + 1)).drop 1 = (p.take i).drop 1 ++ [x] := by
          have h1 := HI.out.1.1; have h2 := HI'.out
          rw [List.take_succ_eq_append_getElem h2, List.drop_append_of_le_length (by rw [List.length_take]; omega), HX.out]
          simp [h2]
        refine ⟨i + 1, by simp, ⟨⟨by omega, HI'.out⟩, by have := HI.out; omega⟩, ?_, ?_, F1, ⟨Kd.R_mono FR.out (fun _ _ => trivial)⟩, FB⟩
        · rw [e, descK_step, ← HKK.out, ← HK2.out]; exact FA
        · rw [e, descK_step]; exact ⟨stepK_ok _ _⟩
    · have hi2 : i = p.length := by have := HI.out; omega
      subst hi2
      have b2 : ¬ ((p.length : Int) < (p.length : Int)) := by omega
      go_wp2_with (first
        | ((with_reducible refine ldR rfl rfl D0.out ?_ ?_ ?_); rfl; exact row26)
        | ((with_reducible refine stR rfl rfl D1.out (kc K) ?_ ?_ ?_ ?_ ?_ ?_); rfl; rfl; exact row26; rfl; rfl; intro W4 P1))
      refine bodyPost_ret (results_cell_row rfl _ _ _ 26 _ (0, 0) _ rfl P1.at_ Try.underlying26 rfl (by kernel_rfl)) rfl ?_
      refine ⟨?_, P1.below DB.out (by omega)⟩
      have e : R = K := by rw [HR.out, HKK.out, List.take_length]
      rw [e]
end Go.Proofs.Ytafhimeoijmolaa.K
namespace Go.Proofs.Ytafhimeoijmolaa.K
open Go.RowKit  Go.Proofs.YtafhimeoijmolaaW.PrintWords Go.Proofs.YtafhimeoijmolaaW.PrintLast Go.Proofs.YtafhimeoijmolaaW.PrintMore Go.Proofs.Ytafhimeoijmolaa.G
set_option linter.unusedVariables false
set_option linter.unusedSimpArgs false
theorem wok_wrap (v : Int) : WOK (IntKind.u64.wrap v) := by unfold WOK; simp [IntKind.wrap, IntKind.bits, IntKind.signed]; omega
structure PathR (v t : Int) (xs : List Int) : Prop where
  mk :: (out : ∃ kk p, headendref03_Path.f kk v t = some p ∧ p.drop 1 = xs ∧ (∀ x ∈ p, 0 ≤ x) ∧ 1 ≤ p.length)
set_option maxHeartbeats 4000000 in
set_option maxRecDepth 100000 in
theorem label_calls (root : S26) (hk : KOK root) (v t : Int) (xs : List Int) (hp : PathR v t xs) (w : World) :
    Calls Try.prog 142 #[kv root, .int .i64 v, .int .i64 t] w fun e w' => e = .returned (kv (descK (nodeK root v) xs)) ∧ Below w.heap.size w w' := by
  obtain ⟨W0, hW0⟩ : ∃ W0, ((w.alloc (.cells (kc root) 26)).alloc (.cells (kc z26) 26)) = W0 := ⟨_, rfl⟩
  have B0 := Aside0.mk (show W0.heap[w.heap.size]? = some (.cells (kc root) 26 (0, 0)) by rw [← hW0]; exact (blk_alloc (newAt rfl) _))
  have B1 := Aside0.mk (show W0.heap[w.heap.size + 1]? = some (.cells (kc z26) 26 (0, 0)) by rw [← hW0]; exact (newAt (by simp)))
  have BB := Aside0.mk (show Below w.heap.size w W0 by rw [← hW0]; exact (((Below.refl _ w).alloc (Nat.le_refl _) _).alloc (by simp) _))
  have BBs := Aside0.mk (show w.heap.size + 2 = W0.heap.size by rw [← hW0]; simp)
  have HW := Aside0.mk hW0
  clear hW0
  have HK := Aside0.mk hk
  have HP := Aside0.mk hp
  obtain ⟨R, hR⟩ : ∃ R, R = descK (nodeK root v) xs := ⟨_, rfl⟩
  rw [← hR]
  have HR := Aside0.mk hR
  have e0 := HW.out
  clear hk hR hp
  go_enter Try.func142, Try.ntmps142
  go_wp2_with fail
  go_at_call 89
  refine (rDerive_calls root 30 _ HK.out (by omega) (wok_wrap v) _).mono ?_
  rintro e1 w1 ⟨rfl, hb1⟩
  have hb1' : Below W0.heap.size W0 w1 := by rw [← e0]; exact hb1
  have C1 := Aside0.mk (blk_to B1.out hb1')
  have CB := Aside0.mk (BB.out.trans (hb1'.mono BB.out.size))
  obtain ⟨K, hK⟩ : ∃ K, K = derK root 30 (IntKind.u64.wrap v) := ⟨_, rfl⟩
  rw [← hK]
  have HK1 := Aside0.mk hK
  have HKO := Aside0.mk (show KOK K by rw [hK]; exact derK_ok _ _ _)
  clear hb1 hb1' e0 hK
  obtain ⟨kk, p, h1, h2, h3, h4⟩ := HP.out
  have HPP := Aside0.mk (And.intro h1 (And.intro h2 (And.intro h3 h4)))
  clear h1 h2 h3 h4 HP
  go_wp2_with fail
  go_at_call 148
  refine (down_calls K HKO.out v t p HPP.out.2.2.1 HPP.out.2.2.2 kk HPP.out.1 _).mono ?_
  rw [HPP.out.2.1]
  rintro e2 w2 ⟨rfl, hb2⟩
  have C2 := Aside0.mk (blk_to C1.out hb2)
  have CB2 := Aside0.mk (CB.out.trans (hb2.mono CB.out.size))
  obtain ⟨K2, hK⟩ : ∃ K2, K2 = descK K xs := ⟨_, rfl⟩
  rw [← hK]
  have HK2 := Aside0.mk hK
  clear hb2 hK
  go_wp2_with (first | ((with_reducible refine stR rfl rfl C2.out (kc K2) ?_ ?_ ?_ ?_ ?_ ?_); rfl; rfl; exact row26; rfl; rfl; intro W2 P1))
  refine bodyPost_ret (results_cell_row rfl _ _ _ 26 _ (0, 0) _ rfl P1.at_ Try.underlying26 rfl (by kernel_rfl)) rfl ?_
  exact ⟨by rw [HR.out, HK2.out, HK1.out]; rfl, P1.below CB2.out (by omega)⟩
set_option maxHeartbeats 4000000 in
set_option maxRecDepth 100000 in
theorem KeyOf_calls (root : S26) (hk : KOK root) (a0 a1 a2 a3 a4 a5 v t : Int) (xs : List Int) (hp : a0 ≠ 1 → t ≠ 0 → PathR v t xs) (w : World) :
    Calls Try.prog 91 #[kv root, .agg #[.int .u8 a0, .int .i64 a1, .int .i64 a2, .int .u64 a3, .int .u64 a4, .int .u64 a5], .agg #[.int .i64 v, .int .i64 t]] w fun e w' => e = .returned (kv (keyI a0 v t xs root)) ∧ Below w.heap.size w w' := by
  obtain ⟨W0, hW0⟩ : ∃ W0, ((((w.alloc (.cells (kc root) 26)).alloc (.cells #[.int .u8 a0, .int .i64 a1, .int .i64 a2, .int .u64 a3, .int .u64 a4, .int .u64 a5] 45)).alloc (.cells #[.int .i64 v, .int .i64 t] 47)).alloc (.cells (kc z26) 26)) = W0 := ⟨_, rfl⟩
  have B0 := Aside0.mk (show W0.heap[w.heap.size]? = some (.cells (kc root) 26 (0, 0)) by rw [← hW0]; exact (blk_alloc (blk_alloc (blk_alloc (newAt rfl) _) _) _))
  have B1 := Aside0.mk (show W0.heap[w.heap.size + 1]? = some (.cells #[.int .u8 a0, .int .i64 a1, .int .i64 a2, .int .u64 a3, .int .u64 a4, .int .u64 a5] 45 (0, 0)) by rw [← hW0]; exact (blk_alloc (blk_alloc (newAt (by simp)) _) _))
  have B2 := Aside0.mk (show W0.heap[w.heap.size + 1 + 1]? = some (.cells #[.int .i64 v, .int .i64 t] 47 (0, 0)) by rw [← hW0]; exact (blk_alloc (newAt (by simp)) _))
  have B3 := Aside0.mk (show W0.heap[w.heap.size + 1 + 1 + 1]? = some (.cells (kc z26) 26 (0, 0)) by rw [← hW0]; exact (newAt (by simp)))
  have BB := Aside0.mk (show Below w.heap.size w W0 by rw [← hW0]; exact (((((Below.refl _ w).alloc (Nat.le_refl _) _).alloc (by simp) _).alloc (by simp; omega) _).alloc (by simp; omega) _))
  have BBs := Aside0.mk (show w.heap.size + 4 = W0.heap.size by rw [← hW0]; simp)
  have HW := Aside0.mk hW0
  clear hW0
  have HK := Aside0.mk hk
  have HP := Aside0.mk hp
  obtain ⟨R, hR⟩ : ∃ R, R = keyI a0 v t xs root := ⟨_, rfl⟩
  rw [← hR]
  have HR := Aside0.mk hR
  have e0 := HW.out
  clear hk hR hp
  by_cases h1 : a0 = 1
  · have E1 := Aside0.mk (show R = nodeK root v from HR.out.trans (if_pos h1))
    have b1 : (a0 == 1) = true := beq_iff_eq.mpr h1
    clear h1
    go_enter Try.func91, Try.ntmps91
    go_wp2_with fail
    go_at_call 89
    refine (rDerive_calls root 30 _ HK.out (by omega) (wok_wrap v) _).mono ?_
    rintro e1 w1 ⟨rfl, hb1⟩
    have hb1' : Below W0.heap.size W0 w1 := by rw [← e0]; exact hb1
    have C3 := Aside0.mk (blk_to B3.out hb1')
    have CB := Aside0.mk (BB.out.trans (hb1'.mono BB.out.size))
    obtain ⟨K, hK⟩ : ∃ K, K = derK root 30 (IntKind.u64.wrap v) := ⟨_, rfl⟩
    rw [← hK]
    have HK1 := Aside0.mk hK
    clear hb1 hb1' e0 hK
    go_wp2_with (first | ((with_reducible refine stR rfl rfl C3.out (kc K) ?_ ?_ ?_ ?_ ?_ ?_); rfl; rfl; exact row26; rfl; rfl; intro W2 P1))
    refine bodyPost_ret (results_cell_row rfl _ _ _ 26 _ (0, 0) _ rfl P1.at_ Try.underlying26 rfl (by kernel_rfl)) rfl ?_
    exact ⟨by rw [E1.out, HK1.out]; rfl, P1.below CB.out (by omega)⟩
  · have b1 : (a0 == 1) = false := beq_eq_false_iff_ne.mpr h1
    by_cases h2 : t = 0
    · have E1 := Aside0.mk (show R = derK root 34 0 by rw [HR.out]; unfold keyI; rw [if_neg h1, if_pos h2])
      have b2 : (t == 0) = true := beq_iff_eq.mpr h2
      clear h1 h2
      go_enter Try.func91, Try.ntmps91
      go_wp2_with fail
      go_at_call 89
      refine (rDerive_calls root 34 0 HK.out (by omega) wok0 _).mono ?_
      rintro e1 w1 ⟨rfl, hb1⟩
      have hb1' : Below W0.heap.size W0 w1 := by rw [← e0]; exact hb1
      have C3 := Aside0.mk (blk_to B3.out hb1')
      have CB := Aside0.mk (BB.out.trans (hb1'.mono BB.out.size))
      obtain ⟨K, hK⟩ : ∃ K, K = derK root 34 0 := ⟨_, rfl⟩
      rw [← hK]
      have HK1 := Aside0.mk hK
      clear hb1 hb1' e0 hK
      go_wp2_with (first | ((with_reducible refine stR rfl rfl C3.out (kc K) ?_ ?_ ?_ ?_ ?_ ?_); rfl; rfl; exact row26; rfl; rfl; intro W2 P1))
      refine bodyPost_ret (results_cell_row rfl _ _ _ 26 _ (0, 0) _ rfl P1.at_ Try.underlying26 rfl (by kernel_rfl)) rfl ?_
      exact ⟨by rw [E1.out, HK1.out], P1.below CB.out (by omega)⟩
    · have E1 := Aside0.mk (show R = derK (descK (nodeK root v) xs) 33 0 by rw [HR.out]; unfold keyI; rw [if_neg h1, if_neg h2])
      have b2 : (t == 0) = false := beq_eq_false_iff_ne.mpr h2
      have HP2 := Aside0.mk (HP.out h1 h2)
      clear h1 h2 HP
      go_enter Try.func91, Try.ntmps91
      go_wp2_with fail
      go_at_call 142
      refine (label_calls root HK.out v t xs HP2.out _).mono ?_
      rintro e1 w1 ⟨rfl, hb1⟩
      have hb1' : Below W0.heap.size W0 w1 := by rw [← e0]; exact hb1
      have C3 := Aside0.mk (blk_to B3.out hb1')
      have CB := Aside0.mk (BB.out.trans (hb1'.mono BB.out.size))
      obtain ⟨K, hK⟩ : ∃ K, K = descK (nodeK root v) xs := ⟨_, rfl⟩
      have HKO := Aside0.mk (show KOK K by
        rw [hK]; unfold descK
        have : ∀ (l : List Int) (q : S26), KOK q → KOK (l.foldl (fun k x => derK k (if Int.tmod x 2 = 1 then 32 else 31) 0) q) := by
          intro l
          induction l with
          | nil => exact fun q h => h
          | cons a l ih => exact fun q _ => ih _ (derK_ok _ _ _)
        exact this _ _ (derK_ok _ _ _))
      rw [← hK]
      have HK1 := Aside0.mk hK
      clear hb1 hb1' e0 hK
      go_wp2_with fail
      go_at_call 89
      refine (rDerive_calls K 33 0 HKO.out (by omega) wok0 _).mono ?_
      rintro e2 w2 ⟨rfl, hb2⟩
      have C4 := Aside0.mk (blk_to C3.out hb2)
      have CB2 := Aside0.mk (CB.out.trans (hb2.mono CB.out.size))
      obtain ⟨K2, hK⟩ : ∃ K2, K2 = derK K 33 0 := ⟨_, rfl⟩
      rw [← hK]
      have HK2 := Aside0.mk hK
      clear hb2 hK
      go_wp2_with (first | ((with_reducible refine stR rfl rfl C4.out (kc K2) ?_ ?_ ?_ ?_ ?_ ?_); rfl; rfl; exact row26; rfl; rfl; intro W2 P1))
      refine bodyPost_ret (results_cell_row rfl _ _ _ 26 _ (0, 0) _ rfl P1.at_ Try.underlying26 rfl (by kernel_rfl)) rfl ?_
      exact ⟨by rw [E1.out, HK2.out, HK1.out], P1.below CB2.out (by omega)⟩
end Go.Proofs.Ytafhimeoijmolaa.K
namespace Go.Proofs.Ytafhimeoijmolaa.K
open Go.RowKit  Go.Proofs.YtafhimeoijmolaaW.PrintWords Go.Proofs.YtafhimeoijmolaaW.PrintLast Go.Proofs.YtafhimeoijmolaaW.PrintMore Go.Proofs.Ytafhimeoijmolaa.G
set_option linter.unusedVariables false
set_option linter.unusedSimpArgs false
theorem keyI_ok (a v t : Int) (xs : List Int) (root : S26) : KOK (keyI a v t xs root) := by
  unfold keyI nodeK
  split
  · exact derK_ok _ _ _
  · split <;> exact derK_ok _ _ _
theorem getD_mem {α : Type} (l : List α) (i : Nat) (h : i < l.length) (z : α) : l.getD i z ∈ l := by simp [h]
set_option maxHeartbeats 4000000 in
set_option maxRecDepth 100000 in
theorem rSeal_v (root session : S26) (a0 a1 a2 a3 a4 a5 : Int) (A : Option Addr) (cap : Nat) (l : List S47) (w : World) (hC : Kd.C k47 w A l.length l) (h1 : headendref03_Valid.f a0 a1 a2 a3 a4 a5 = some false) :
    Calls Try.prog 39 #[kv root, .agg #[.int .u8 a0, .int .i64 a1, .int .i64 a2, .int .u64 a3, .int .u64 a4, .int .u64 a5], .slice A l.length cap, kv session] w fun e' w' => e' = .returned (.tuple #[hv (.slice none 0 0) 0 (.slice none 0 0) z26 z26, .int .i64 30]) ∧ Below w.heap.size w w' := by
  have H1 := Aside0.mk h1
  clear h1
  obtain ⟨W0, hW0⟩ : ∃ W0, ((((w.alloc (.cells (kc root) 26)).alloc (.cells #[.int .u8 a0, .int .i64 a1, .int .i64 a2, .int .u64 a3, .int .u64 a4, .int .u64 a5] 45)).alloc (.cells (kc session) 26)).alloc (.cells (hc (.slice none 0 0) 0 (.slice none 0 0) z26 z26) 28)) = W0 := ⟨_, rfl⟩
  have B0 := Aside0.mk (show W0.heap[w.heap.size]? = some (.cells (kc root) 26 (0, 0)) by rw [← hW0]; exact (blk_alloc (blk_alloc (blk_alloc (newAt rfl) _) _) _))
  have B1 := Aside0.mk (show W0.heap[w.heap.size + 1]? = some (.cells #[.int .u8 a0, .int .i64 a1, .int .i64 a2, .int .u64 a3, .int .u64 a4, .int .u64 a5] 45 (0, 0)) by rw [← hW0]; exact (blk_alloc (blk_alloc (newAt (by simp)) _) _))
  have B2 := Aside0.mk (show W0.heap[w.heap.size + 1 + 1]? = some (.cells (kc session) 26 (0, 0)) by rw [← hW0]; exact (blk_alloc (newAt (by simp)) _))
  have B3 := Aside0.mk (show W0.heap[w.heap.size + 1 + 1 + 1]? = some (.cells (hc (.slice none 0 0) 0 (.slice none 0 0) z26 z26) 28 (0, 0)) by rw [← hW0]; exact (newAt (by simp)))
  have BB := Aside0.mk (show Below w.heap.size w W0 by rw [← hW0]; exact (((((Below.refl _ w).alloc (Nat.le_refl _) _).alloc (by simp) _).alloc (by simp; omega) _).alloc (by simp; omega) _))
  have BBs := Aside0.mk (show w.heap.size + 4 = W0.heap.size by rw [← hW0]; simp)
  have HW := Aside0.mk hW0
  clear hW0
  have hlen : l.length ≤ 9223372036854775807 := hC.2.1
  have HC := Aside0.mk hC
  have e0 := HW.out
  clear hC
  go_enter Try.func39, Try.ntmps39
  go_wp2_with fail
  go_at_call 61
  refine (headendref03_Valid.calls a0 a1 a2 a3 a4 a5 false _ H1.out).mono ?_
  rintro e1 w1 ⟨rfl, hb1⟩
  have hb1' : Below W0.heap.size W0 w1 := by rw [← e0]; exact hb1
  have C0 := Aside0.mk (blk_to B0.out hb1'); have C1 := Aside0.mk (blk_to B1.out hb1'); have C2 := Aside0.mk (blk_to B2.out hb1'); have C3 := Aside0.mk (blk_to B3.out hb1')
  have CB := Aside0.mk (BB.out.trans (hb1'.mono BB.out.size))
  have hcs : w.heap.size + 4 ≤ w1.heap.size := by have := hb1'.size; have := BBs.out; omega
  clear hb1 hb1' e0 B0 B1 B2 B3 BB BBs HW H1
  go_wp2_with (first | ((with_reducible refine stR rfl rfl C3.out (hc (.slice none 0 0) 0 (.slice none 0 0) z26 z26) ?_ ?_ ?_ ?_ ?_ ?_); rfl; rfl; exact row28; rfl; rfl; intro W2 P1))
  refine bodyPost_ret (ret_head rfl rfl rfl P1.at_) rfl ?_
  exact ⟨rfl, P1.below CB.out (by omega)⟩
set_option maxHeartbeats 4000000 in
set_option maxRecDepth 100000 in
theorem rSeal_many (root session : S26) (a0 a1 a2 a3 a4 a5 : Int) (A : Option Addr) (cap : Nat) (l : List S47) (w : World) (hC : Kd.C k47 w A l.length l) (h1 : headendref03_Valid.f a0 a1 a2 a3 a4 a5 = some true) (h64 : 64 < l.length) :
    Calls Try.prog 39 #[kv root, .agg #[.int .u8 a0, .int .i64 a1, .int .i64 a2, .int .u64 a3, .int .u64 a4, .int .u64 a5], .slice A l.length cap, kv session] w fun e' w' => e' = .returned (.tuple #[hv (.slice none 0 0) 0 (.slice none 0 0) z26 z26, .int .i64 4]) ∧ Below w.heap.size w w' := by
  have H1 := Aside0.mk h1
  clear h1
  obtain ⟨W0, hW0⟩ : ∃ W0, ((((w.alloc (.cells (kc root) 26)).alloc (.cells #[.int .u8 a0, .int .i64 a1, .int .i64 a2, .int .u64 a3, .int .u64 a4, .int .u64 a5] 45)).alloc (.cells (kc session) 26)).alloc (.cells (hc (.slice none 0 0) 0 (.slice none 0 0) z26 z26) 28)) = W0 := ⟨_, rfl⟩
  have B0 := Aside0.mk (show W0.heap[w.heap.size]? = some (.cells (kc root) 26 (0, 0)) by rw [← hW0]; exact (blk_alloc (blk_alloc (blk_alloc (newAt rfl) _) _) _))
  have B1 := Aside0.mk (show W0.heap[w.heap.size + 1]? = some (.cells #[.int .u8 a0, .int .i64 a1, .int .i64 a2, .int .u64 a3, .int .u64 a4, .int .u64 a5] 45 (0, 0)) by rw [← hW0]; exact (blk_alloc (blk_alloc (newAt (by simp)) _) _))
  have B2 := Aside0.mk (show W0.heap[w.heap.size + 1 + 1]? = some (.cells (kc session) 26 (0, 0)) by rw [← hW0]; exact (blk_alloc (newAt (by simp)) _))
  have B3 := Aside0.mk (show W0.heap[w.heap.size + 1 + 1 + 1]? = some (.cells (hc (.slice none 0 0) 0 (.slice none 0 0) z26 z26) 28 (0, 0)) by rw [← hW0]; exact (newAt (by simp)))
  have BB := Aside0.mk (show Below w.heap.size w W0 by rw [← hW0]; exact (((((Below.refl _ w).alloc (Nat.le_refl _) _).alloc (by simp) _).alloc (by simp; omega) _).alloc (by simp; omega) _))
  have BBs := Aside0.mk (show w.heap.size + 4 = W0.heap.size by rw [← hW0]; simp)
  have HW := Aside0.mk hW0
  clear hW0
  have hlen : l.length ≤ 9223372036854775807 := hC.2.1
  have HC := Aside0.mk hC
  have e0 := HW.out
  clear hC
  have b1 : (64 : Int) < (l.length : Int) := by omega
  go_enter Try.func39, Try.ntmps39
  go_wp2_with fail
  go_at_call 61
  refine (headendref03_Valid.calls a0 a1 a2 a3 a4 a5 true _ H1.out).mono ?_
  rintro e1 w1 ⟨rfl, hb1⟩
  have hb1' : Below W0.heap.size W0 w1 := by rw [← e0]; exact hb1
  have C0 := Aside0.mk (blk_to B0.out hb1'); have C1 := Aside0.mk (blk_to B1.out hb1'); have C2 := Aside0.mk (blk_to B2.out hb1'); have C3 := Aside0.mk (blk_to B3.out hb1')
  have CB := Aside0.mk (BB.out.trans (hb1'.mono BB.out.size))
  have hcs : w.heap.size + 4 ≤ w1.heap.size := by have := hb1'.size; have := BBs.out; omega
  clear hb1 hb1' e0 B0 B1 B2 B3 BB BBs HW H1
  go_wp2_with (first | ((with_reducible refine stR rfl rfl C3.out (hc (.slice none 0 0) 0 (.slice none 0 0) z26 z26) ?_ ?_ ?_ ?_ ?_ ?_); rfl; rfl; exact row28; rfl; rfl; intro W2 P1))
  refine bodyPost_ret (ret_head rfl rfl rfl P1.at_) rfl ?_
  exact ⟨rfl, P1.below CB.out (by omega)⟩
set_option maxHeartbeats 4000000 in
set_option maxRecDepth 100000 in
theorem rSeal_sub (root session : S26) (a0 a1 a2 a3 a4 a5 : Int) (A : Option Addr) (cap : Nat) (l : List S47) (w : World) (hC : Kd.C k47 w A l.length l) (h1 : headendref03_Valid.f a0 a1 a2 a3 a4 a5 = some true) (h64 : l.length ≤ 64) (kk : Nat) (sub : S47 → Bool) (hsub : ∀ x ∈ l, headendref03_IsSubset.f kk a0 a1 a2 a3 a4 a5 x.f0 x.f1 = some (sub x)) (hn : ∃ x ∈ l, sub x = false) :
    Calls Try.prog 39 #[kv root, .agg #[.int .u8 a0, .int .i64 a1, .int .i64 a2, .int .u64 a3, .int .u64 a4, .int .u64 a5], .slice A l.length cap, kv session] w fun e' w' => e' = .returned (.tuple #[hv (.slice none 0 0) 0 (.slice none 0 0) z26 z26, .int .i64 31]) ∧ Below w.heap.size w w' := by
  have H1 := Aside0.mk h1; have HN := Aside0.mk hn
  clear h1 hn
  obtain ⟨W0, hW0⟩ : ∃ W0, ((((w.alloc (.cells (kc root) 26)).alloc (.cells #[.int .u8 a0, .int .i64 a1, .int .i64 a2, .int .u64 a3, .int .u64 a4, .int .u64 a5] 45)).alloc (.cells (kc session) 26)).alloc (.cells (hc (.slice none 0 0) 0 (.slice none 0 0) z26 z26) 28)) = W0 := ⟨_, rfl⟩
  have B0 := Aside0.mk (show W0.heap[w.heap.size]? = some (.cells (kc root) 26 (0, 0)) by rw [← hW0]; exact (blk_alloc (blk_alloc (blk_alloc (newAt rfl) _) _) _))
  have B1 := Aside0.mk (show W0.heap[w.heap.size + 1]? = some (.cells #[.int .u8 a0, .int .i64 a1, .int .i64 a2, .int .u64 a3, .int .u64 a4, .int .u64 a5] 45 (0, 0)) by rw [← hW0]; exact (blk_alloc (blk_alloc (newAt (by simp)) _) _))
  have B2 := Aside0.mk (show W0.heap[w.heap.size + 1 + 1]? = some (.cells (kc session) 26 (0, 0)) by rw [← hW0]; exact (blk_alloc (newAt (by simp)) _))
  have B3 := Aside0.mk (show W0.heap[w.heap.size + 1 + 1 + 1]? = some (.cells (hc (.slice none 0 0) 0 (.slice none 0 0) z26 z26) 28 (0, 0)) by rw [← hW0]; exact (newAt (by simp)))
  have BB := Aside0.mk (show Below w.heap.size w W0 by rw [← hW0]; exact (((((Below.refl _ w).alloc (Nat.le_refl _) _).alloc (by simp) _).alloc (by simp; omega) _).alloc (by simp; omega) _))
  have BBs := Aside0.mk (show w.heap.size + 4 = W0.heap.size by rw [← hW0]; simp)
  have HW := Aside0.mk hW0
  clear hW0
  have hlen : l.length ≤ 9223372036854775807 := hC.2.1
  have HC := Aside0.mk hC
  have e0 := HW.out
  clear hC
  have b1 : (l.length : Int) ≤ 64 := by omega
  go_enter Try.func39, Try.ntmps39
  go_wp2_with fail
  go_at_call 61
  refine (headendref03_Valid.calls a0 a1 a2 a3 a4 a5 true _ H1.out).mono ?_
  rintro e1 w1 ⟨rfl, hb1⟩
  have hb1' : Below W0.heap.size W0 w1 := by rw [← e0]; exact hb1
  have C0 := Aside0.mk (blk_to B0.out hb1'); have C1 := Aside0.mk (blk_to B1.out hb1'); have C2 := Aside0.mk (blk_to B2.out hb1'); have C3 := Aside0.mk (blk_to B3.out hb1')
  have CB := Aside0.mk (BB.out.trans (hb1'.mono BB.out.size))
  have hcs : w.heap.size + 4 ≤ w1.heap.size := by have := hb1'.size; have := BBs.out; omega
  clear hb1 hb1' e0 B0 B1 B2 B3 BB BBs HW H1
  go_wp2
  go_loopg [10] l.length (fun kq v10 w' => ∃ (i : Nat), v10 = .int .i64 (i : Int) ∧ Aside0 (i + kq = l.length) ∧ Aside0 (∀ j, j < i → sub (l.getD j z47) = true) ∧ Aside0 (Below w1.heap.size w1 w'))
  case atStart => exact ⟨0, rfl, ⟨by omega⟩, ⟨fun j hj => by omega⟩, ⟨Below.refl _ _⟩⟩
  case round =>
    obtain ⟨i, rfl, HI, HA, HB⟩ := hrel
    have D0 := Aside0.mk (blk_to C0.out HB.out); have D1 := Aside0.mk (blk_to C1.out HB.out); have D2 := Aside0.mk (blk_to C2.out HB.out); have D3 := Aside0.mk (blk_to C3.out HB.out)
    have DB := Aside0.mk (CB.out.trans (HB.out.mono CB.out.size))
    have DC := Aside0.mk (Kd.C_below HC.out DB.out)
    have hds : w.heap.size + 4 ≤ wr.heap.size := by have := HB.out.size; omega
    by_cases hi : i < l.length
    · have HI' := Aside0.mk hi
      obtain ⟨x, hx⟩ : ∃ x, x = l.getD i z47 := ⟨_, rfl⟩
      have HX := Aside0.mk hx
      obtain ⟨ad, cc, rfl, -⟩ := Kd.C_get DC.out z47 (i : Int) (by omega) (by omega)
      have b2 : (i : Int) < (l.length : Int) := by omega
      have HSX := Aside0.mk (hsub x (by rw [hx]; exact getD_mem l i hi z47))
      obtain ⟨q, hq⟩ : ∃ q, q = sub x := ⟨_, rfl⟩
      rw [← hq] at HSX
      have HQ := Aside0.mk hq
      clear hx hi hq C0 C1 C2 C3 CB
      go_wp2_with fail
      refine beginB none 9 7 rfl (by repeat (first | exact nf_body | refine nf_then ?_ | refine nf_block ?_)) (fun NF S0 => ?_)
      refine takeR 0 27 rfl (by kernel_rfl) (by kernel_rfl) (by kernel_rfl) (by kernel_rfl) rfl rfl rfl D1.out (by simp) NF S0 rfl row45 ?_; (try simp only [Act.put, List.setIfInBounds_toArray, List.set_cons_zero, List.set_cons_succ])
      refine takeY 1 28 (.slice (some ad) l.length cap) rfl (by kernel_rfl) (by kernel_rfl) (by kernel_rfl) (by kernel_rfl) rfl rfl NF S0 (fun w' hw' => by go_simp) ?_; (try simp only [Act.put, List.setIfInBounds_toArray, List.set_cons_zero, List.set_cons_succ])
      refine takeY 2 29 (.int .i64 i) rfl (by kernel_rfl) (by kernel_rfl) (by kernel_rfl) (by kernel_rfl) rfl rfl NF S0 (fun w' hw' => by go_simp) ?_; (try simp only [Act.put, List.setIfInBounds_toArray, List.set_cons_zero, List.set_cons_succ])
      refine takeY 3 30 (.pointer (some (ad.add (i * 2)))) rfl (by kernel_rfl) (by kernel_rfl) (by kernel_rfl) (by kernel_rfl) rfl rfl NF S0 (fun w' hw' => by go_simp) ?_; (try simp only [Act.put, List.setIfInBounds_toArray, List.set_cons_zero, List.set_cons_succ])
      refine takeC 4 31 rfl (by kernel_rfl) (by kernel_rfl) (by kernel_rfl) (by kernel_rfl) rfl rfl rfl DC.out (by simp) (fun _ _ _ h => h) i z47 [.int .i64 x.f0, .int .i64 x.f1] 2 HI'.out (fun _ c h => by rw [← HX.out] at h; exact k47_cs c h) NF S0 rfl row47 rfl ?_; (try simp only [Act.put, List.setIfInBounds_toArray, List.set_cons_zero, List.set_cons_succ])
      refine nextM 5 (by kernel_rfl) rfl (fun K5 hK5 => ?_)
      go_simp
      go_at_call 64
      refine (headendref03_IsSubset.calls kk a0 a1 a2 a3 a4 a5 x.f0 x.f1 q _ HSX.out).mono ?_
      rintro e2 w2 ⟨rfl, hb2⟩
      have S2 := S0.below hb2
      refine hK5.out _ _ (fun _ => S2) ?_
      (try simp only [Act.put, List.setIfInBounds_toArray, List.set_cons_zero, List.set_cons_succ])
      refine nextM 6 (by kernel_rfl) rfl (fun K6 hK6 => ?_)
      go_simp
      refine hK6.out _ _ (fun _ => S2) ?_
      refine doneM (by kernel_rfl) ?_ _
      have E3 := Aside0.mk (blk_to (blk_drew D3.out) hb2)
      have EB := Aside0.mk (HB.out.drew.trans (hb2.mono HB.out.size))
      have EW := Aside0.mk (DB.out.drew.trans (hb2.mono DB.out.size))
      clear S0 S2 NF hb2
      cases q with
      | true =>
        go_wp2
        obtain ⟨gq, rfl⟩ : ∃ gq, gk = gq + 1 := ⟨gk - 1, by have := HI'.out; have := HI.out; omega⟩
        go_roundg gq
        case measure => omega
        case rel =>
          refine ⟨i + 1, by simp, ⟨by have := HI.out; omega⟩, ⟨fun j hj => ?_⟩, EB⟩
          by_cases hji : j = i
          · subst hji; rw [← HX.out]; exact HQ.out.symm
          · exact HA.out j (by omega)
      | false =>
        go_wp2_with (first | ((with_reducible refine stR rfl rfl E3.out (hc (.slice none 0 0) 0 (.slice none 0 0) z26 z26) ?_ ?_ ?_ ?_ ?_ ?_); rfl; rfl; exact row28; rfl; rfl; intro W2 P1))
        refine bodyPost_ret (ret_head rfl rfl rfl P1.at_) rfl ?_
        exact ⟨rfl, P1.below EW.out (by omega)⟩
    · exfalso
      have hi2 : i = l.length := by have := HI.out; omega
      obtain ⟨x, hx, hs⟩ := HN.out
      obtain ⟨j, hj, rfl⟩ := List.getElem_of_mem hx
      have := HA.out j (by omega)
      simp [hj] at this
      rw [hs] at this
      cases this
set_option maxHeartbeats 4000000 in
set_option maxRecDepth 100000 in
theorem rSeal_ok (root session : S26) (a0 a1 a2 a3 a4 a5 : Int) (A : Option Addr) (cap : Nat) (l : List S47) (w : World) (hC : Kd.C k47 w A l.length l) (h1 : headendref03_Valid.f a0 a1 a2 a3 a4 a5 = some true) (h64 : l.length ≤ 64) (kk : Nat) (sub : S47 → Bool) (hsub : ∀ x ∈ l, headendref03_IsSubset.f kk a0 a1 a2 a3 a4 a5 x.f0 x.f1 = some (sub x)) (hn : ∀ x ∈ l, sub x = true) (hkr : KOK root) (hks : KOK session)
    (hp : ∀ x ∈ l, a0 ≠ 1 → x.f1 ≠ 0 → PathR x.f0 x.f1 ((pathF 9 x.f0 x.f1).getD [])) :
    Calls Try.prog 39 #[kv root, .agg #[.int .u8 a0, .int .i64 a1, .int .i64 a2, .int .u64 a3, .int .u64 a4, .int .u64 a5], .slice A l.length cap, kv session] w fun e' w' => ∃ v, e' = .returned (.tuple #[hv v 0 (.slice none 0 0) z26 (derK session 53 0), .int .i64 0]) ∧ Kd.R k111 111 w' w.heap.size (fun _ => True) v (l.map (itemK a0 root session)) ∧ Below w.heap.size w w' := by
  have H1 := Aside0.mk h1; have HN := Aside0.mk hn; have HKR := Aside0.mk hkr; have HKS := Aside0.mk hks; have HP := Aside0.mk hp; have H64 := Aside0.mk h64
  clear h1 hn hkr hks hp
  obtain ⟨W0, hW0⟩ : ∃ W0, ((((w.alloc (.cells (kc root) 26)).alloc (.cells #[.int .u8 a0, .int .i64 a1, .int .i64 a2, .int .u64 a3, .int .u64 a4, .int .u64 a5] 45)).alloc (.cells (kc session) 26)).alloc (.cells (hc (.slice none 0 0) 0 (.slice none 0 0) z26 z26) 28)) = W0 := ⟨_, rfl⟩
  have B0 := Aside0.mk (show W0.heap[w.heap.size]? = some (.cells (kc root) 26 (0, 0)) by rw [← hW0]; exact (blk_alloc (blk_alloc (blk_alloc (newAt rfl) _) _) _))
  have B1 := Aside0.mk (show W0.heap[w.heap.size + 1]? = some (.cells #[.int .u8 a0, .int .i64 a1, .int .i64 a2, .int .u64 a3, .int .u64 a4, .int .u64 a5] 45 (0, 0)) by rw [← hW0]; exact (blk_alloc (blk_alloc (newAt (by simp)) _) _))
  have B2 := Aside0.mk (show W0.heap[w.heap.size + 1 + 1]? = some (.cells (kc session) 26 (0, 0)) by rw [← hW0]; exact (blk_alloc (newAt (by simp)) _))
  have B3 := Aside0.mk (show W0.heap[w.heap.size + 1 + 1 + 1]? = some (.cells (hc (.slice none 0 0) 0 (.slice none 0 0) z26 z26) 28 (0, 0)) by rw [← hW0]; exact (newAt (by simp)))
  have BB := Aside0.mk (show Below w.heap.size w W0 by rw [← hW0]; exact (((((Below.refl _ w).alloc (Nat.le_refl _) _).alloc (by simp) _).alloc (by simp; omega) _).alloc (by simp; omega) _))
  have BBs := Aside0.mk (show w.heap.size + 4 = W0.heap.size by rw [← hW0]; simp)
  have HW := Aside0.mk hW0
  clear hW0
  have hlen : l.length ≤ 9223372036854775807 := hC.2.1
  have HC := Aside0.mk hC
  have e0 := HW.out
  clear hC
  have b1 : (l.length : Int) ≤ 64 := by omega
  go_enter Try.func39, Try.ntmps39
  go_wp2_with fail
  go_at_call 61
  refine (headendref03_Valid.calls a0 a1 a2 a3 a4 a5 true _ H1.out).mono ?_
  rintro e1 w1 ⟨rfl, hb1⟩
  have hb1' : Below W0.heap.size W0 w1 := by rw [← e0]; exact hb1
  have C0 := Aside0.mk (blk_to B0.out hb1'); have C1 := Aside0.mk (blk_to B1.out hb1'); have C2 := Aside0.mk (blk_to B2.out hb1'); have C3 := Aside0.mk (blk_to B3.out hb1')
  have CB := Aside0.mk (BB.out.trans (hb1'.mono BB.out.size))
  have hcs : w.heap.size + 4 ≤ w1.heap.size := by have := hb1'.size; have := BBs.out; omega
  clear hb1 hb1' e0 B0 B1 B2 B3 BB BBs HW H1
  go_wp2
  go_loopg [10] l.length (fun kq v10 w' => ∃ (i : Nat), v10 = .int .i64 (i : Int) ∧ Aside0 (i + kq = l.length) ∧ Aside0 (∀ j, j < i → sub (l.getD j z47) = true) ∧ Aside0 (Below w1.heap.size w1 w'))
  case atStart => exact ⟨0, rfl, ⟨by omega⟩, ⟨fun j hj => by omega⟩, ⟨Below.refl _ _⟩⟩
  case round =>
    obtain ⟨i, rfl, HI, HA, HB⟩ := hrel
    have D0 := Aside0.mk (blk_to C0.out HB.out); have D1 := Aside0.mk (blk_to C1.out HB.out); have D2 := Aside0.mk (blk_to C2.out HB.out); have D3 := Aside0.mk (blk_to C3.out HB.out)
    have DB := Aside0.mk (CB.out.trans (HB.out.mono CB.out.size))
    have DC := Aside0.mk (Kd.C_below HC.out DB.out)
    have hds : w.heap.size + 4 ≤ wr.heap.size := by have := HB.out.size; omega
    by_cases hi : i < l.length
    · have HI' := Aside0.mk hi
      obtain ⟨x, hx⟩ : ∃ x, x = l.getD i z47 := ⟨_, rfl⟩
      have HX := Aside0.mk hx
      obtain ⟨ad, cc, rfl, -⟩ := Kd.C_get DC.out z47 (i : Int) (by omega) (by omega)
      have b2 : (i : Int) < (l.length : Int) := by omega
      have HSX := Aside0.mk (hsub x (by rw [hx]; exact getD_mem l i hi z47))
      obtain ⟨q, hq⟩ : ∃ q, q = sub x := ⟨_, rfl⟩
      rw [← hq] at HSX
      have HQ := Aside0.mk hq
      clear hx hi hq C0 C1 C2 C3 CB
      go_wp2_with fail
      refine beginB none 9 7 rfl (by repeat (first | exact nf_body | refine nf_then ?_ | refine nf_block ?_)) (fun NF S0 => ?_)
      refine takeR 0 27 rfl (by kernel_rfl) (by kernel_rfl) (by kernel_rfl) (by kernel_rfl) rfl rfl rfl D1.out (by simp) NF S0 rfl row45 ?_; (try simp only [Act.put, List.setIfInBounds_toArray, List.set_cons_zero, List.set_cons_succ])
      refine takeY 1 28 (.slice (some ad) l.length cap) rfl (by kernel_rfl) (by kernel_rfl) (by kernel_rfl) (by kernel_rfl) rfl rfl NF S0 (fun w' hw' => by go_simp) ?_; (try simp only [Act.put, List.setIfInBounds_toArray, List.set_cons_zero, List.set_cons_succ])
      refine takeY 2 29 (.int .i64 i) rfl (by kernel_rfl) (by kernel_rfl) (by kernel_rfl) (by kernel_rfl) rfl rfl NF S0 (fun w' hw' => by go_simp) ?_; (try simp only [Act.put, List.setIfInBounds_toArray, List.set_cons_zero, List.set_cons_succ])
      refine takeY 3 30 (.pointer (some (ad.add (i * 2)))) rfl (by kernel_rfl) (by kernel_rfl) (by kernel_rfl) (by kernel_rfl) rfl rfl NF S0 (fun w' hw' => by go_simp) ?_; (try simp only [Act.put, List.setIfInBounds_toArray, List.set_cons_zero, List.set_cons_succ])
      refine takeC 4 31 rfl (by kernel_rfl) (by kernel_rfl) (by kernel_rfl) (by kernel_rfl) rfl rfl rfl DC.out (by simp) (fun _ _ _ h => h) i z47 [.int .i64 x.f0, .int .i64 x.f1] 2 HI'.out (fun _ c h => by rw [← HX.out] at h; exact k47_cs c h) NF S0 rfl row47 rfl ?_; (try simp only [Act.put, List.setIfInBounds_toArray, List.set_cons_zero, List.set_cons_succ])
      refine nextM 5 (by kernel_rfl) rfl (fun K5 hK5 => ?_)
      go_simp
      go_at_call 64
      refine (headendref03_IsSubset.calls kk a0 a1 a2 a3 a4 a5 x.f0 x.f1 q _ HSX.out).mono ?_
      rintro e2 w2 ⟨rfl, hb2⟩
      have S2 := S0.below hb2
      refine hK5.out _ _ (fun _ => S2) ?_
      (try simp only [Act.put, List.setIfInBounds_toArray, List.set_cons_zero, List.set_cons_succ])
      refine nextM 6 (by kernel_rfl) rfl (fun K6 hK6 => ?_)
      go_simp
      refine hK6.out _ _ (fun _ => S2) ?_
      refine doneM (by kernel_rfl) ?_ _
      have E3 := Aside0.mk (blk_to (blk_drew D3.out) hb2)
      have EB := Aside0.mk (HB.out.drew.trans (hb2.mono HB.out.size))
      have EW := Aside0.mk (DB.out.drew.trans (hb2.mono DB.out.size))
      clear S0 S2 NF hb2
      cases q with
      | true =>
        go_wp2
        obtain ⟨gq, rfl⟩ : ∃ gq, gk = gq + 1 := ⟨gk - 1, by have := HI'.out; have := HI.out; omega⟩
        go_roundg gq
        case measure => omega
        case rel =>
          refine ⟨i + 1, by simp, ⟨by have := HI.out; omega⟩, ⟨fun j hj => ?_⟩, EB⟩
          by_cases hji : j = i
          · subst hji; rw [← HX.out]; exact HQ.out.symm
          · exact HA.out j (by omega)
      | false =>
        exfalso
        have := HN.out x (by rw [HX.out]; exact getD_mem l i HI'.out z47)
        rw [← HQ.out] at this
        cases this
    · have hi2 : i = l.length := by have := HI.out; omega
      subst hi2
      have b2 : ¬ ((l.length : Int) < (l.length : Int)) := by omega
      clear HA HI C0 C1 C2 C3 CB hsub
      go_wp2_with (first
        | ((with_reducible refine ldR rfl rfl D2.out ?_ ?_ ?_); rfl; exact row26)
        | (go_at_call 89; refine (rDerive_calls session 53 0 HKS.out (by omega) wok0 _).mono ?_; rintro e3 w3 ⟨rfl, hb3⟩; obtain ⟨K, hK⟩ : ∃ K, K = derK session 53 0 := ⟨_, rfl⟩; rw [← hK]; have HK := Aside0.mk hK; have HB3 := Aside0.mk hb3; clear hK hb3)
        | (((with_reducible refine stR rfl rfl (newAt rfl) (hc (.slice none 0 0) 0 (.slice none 0 0) z26 K) ?_ ?_ ?_ ?_ ?_ ?_); rfl; rfl; exact row28; rfl; rfl; intro W3 P1); have HP1 := Aside0.mk P1; clear P1))
      obtain ⟨g, hg⟩ : ∃ g, g = w3.heap.size := ⟨_, rfl⟩
      have hb3 : Below w.heap.size w w3 := DB.out.trans (HB3.out.mono DB.out.size)
      have hgs : w.heap.size + 4 ≤ g := by rw [hg]; have := HB3.out.size; omega
      have hW3 : W3.heap.size = g + 1 := by rw [hg]; have := HP1.out.size; simpa using this
      have old : ∀ j o, w3.heap[j]? = some o → W3.heap[j]? = some o := fun j o hj => HP1.out.blk (blk_alloc hj _) (by have := (Array.getElem?_eq_some_iff.1 hj).1; omega)
      have E0 := Aside0.mk (old _ _ (blk_to D0.out HB3.out)); have E1 := Aside0.mk (old _ _ (blk_to D1.out HB3.out)); have E2 := Aside0.mk (old _ _ (blk_to D2.out HB3.out)); have E3 := Aside0.mk (old _ _ (blk_to D3.out HB3.out))
      have EG := Aside0.mk HP1.out.at_
      have EB := Aside0.mk (show Below w.heap.size w W3 from HP1.out.below (hb3.alloc hb3.size _) (by omega))
      rw [← hg] at EG ⊢
      have EW := Aside0.mk hW3
      clear hb3 old hW3 hg HP1 HB3 D0 D1 D2 D3 DB DC hds HB
      go_loopg [12] l.length (fun kq v12 w' => ∃ (i : Nat) (v : Value), v12 = .int .i64 (i : Int) ∧ Aside0 (i + kq = l.length) ∧ Aside0 (w'.heap[g]? = some (.cells (hc v 0 (.slice none 0 0) z26 K) 28 (0, 0))) ∧ Aside0 (Kd.R k111 111 w' g (fun j => g < j) v ((l.take i).map (itemK a0 root session))) ∧ Aside0 (Below g W3 w'))
      case atStart => exact ⟨0, .slice none 0 0, rfl, ⟨by omega⟩, EG, ⟨Kd.R_nil _ _ _ _ _⟩, ⟨Below.refl _ _⟩⟩
      case round =>
        obtain ⟨i, v, rfl, HI, HG, HR, HB⟩ := hrel
        have stand : ∀ {j : Nat} {o : Obj}, W3.heap[j]? = some o → j < g → wr.heap[j]? = some o := fun hj hlt => (HB.out.block _ hlt).trans hj
        have F0 := Aside0.mk (stand E0.out (by omega)); have F1 := Aside0.mk (stand E1.out (by omega)); have F2 := Aside0.mk (stand E2.out (by omega)); have F3 := Aside0.mk (stand E3.out (by omega))
        have FB := Aside0.mk (EB.out.trans (HB.out.mono (by omega)))
        have hgw : g < wr.heap.size := (Array.getElem?_eq_some_iff.1 HG.out).1
        clear stand
        by_cases hi : i < l.length
        · have HI' := Aside0.mk hi
          obtain ⟨x, hx⟩ : ∃ x, x = l.getD i z47 := ⟨_, rfl⟩
          have HX := Aside0.mk hx
          have hC2 := Kd.C_below HC.out FB.out
          have hadl : ∀ ad, A = some ad → ad.block < w.heap.size := by
            intro ad e
            obtain ⟨ad', c', e', _, _, hc'⟩ := Kd.C_get HC.out z47 (i : Int) (by omega) (by omega)
            obtain rfl := Option.some.inj (e.symm.trans e')
            have := hc' 0
            obtain ⟨u, hu⟩ : ∃ u, c'[0]? = some u := by
              have hl' : c'.length = 2 := by assumption
              exact ⟨c'[0], by simp [hl']⟩
            have h9 := World.block_lt_of_cell? w _ (hc' 0 u hu)
            have eb : (ad.add ((i : Int).toNat * k47.sz + 0)).block = ad.block := by unfold Addr.add; split <;> rfl
            rw [eb] at h9; exact h9
          obtain ⟨ad, cc, rfl, -⟩ := Kd.C_get hC2 z47 (i : Int) (by omega) (by omega)
          have hadw := hadl ad rfl
          have HC2 := Aside0.mk hC2
          have b3 : (i : Int) < (l.length : Int) := by omega
          have hxl : x ∈ l := by rw [hx]; exact getD_mem l i hi z47
          have HPX := Aside0.mk (HP.out x hxl)
          have NX0 := Aside0.mk (Kd.R_bound HR.out).1
          clear hx hi hC2 hadl hxl
          go_wp2_with fail
          obtain ⟨nb, hnb⟩ : ∃ nb, nb = v.ownBlock := ⟨_, rfl⟩
          have own : ∀ j, j ≤ g → some j ≠ nb := fun j hj e => by have := HR.out.1 j (hnb ▸ e.symm); omega
          have NB := Aside0.mk hnb
          clear hnb
          refine beginB nb 19 20 rfl (by repeat (first | exact nf_body | refine nf_then ?_ | refine nf_block ?_)) (fun NF S0 => ?_)
          refine takeY 0 44 (.pointer (some ⟨g, 0, none⟩)) rfl (by kernel_rfl) (by kernel_rfl) (by kernel_rfl) (by kernel_rfl) rfl rfl NF S0 (fun w' hw' => by go_simp) ?_; (try simp only [Act.put, List.setIfInBounds_toArray, List.set_cons_zero, List.set_cons_succ])
          refine takeY 1 45 v rfl (by kernel_rfl) (by kernel_rfl) (by kernel_rfl) (by kernel_rfl) rfl rfl NF S0 (fun w' hw' => by have c := cat (hw'.at_ HG.out (own _ (Nat.le_refl _))) 0 v rfl; go_simp) ?_; (try simp only [Act.put, List.setIfInBounds_toArray, List.set_cons_zero, List.set_cons_succ])
          refine takeY 2 46 (.slice (some ad) l.length cap) rfl (by kernel_rfl) (by kernel_rfl) (by kernel_rfl) (by kernel_rfl) rfl rfl NF S0 (fun w' hw' => by go_simp) ?_; (try simp only [Act.put, List.setIfInBounds_toArray, List.set_cons_zero, List.set_cons_succ])
          refine takeY 3 47 (.int .i64 i) rfl (by kernel_rfl) (by kernel_rfl) (by kernel_rfl) (by kernel_rfl) rfl rfl NF S0 (fun w' hw' => by go_simp) ?_; (try simp only [Act.put, List.setIfInBounds_toArray, List.set_cons_zero, List.set_cons_succ])
          refine takeY 4 48 (.pointer (some (ad.add (i * 2)))) rfl (by kernel_rfl) (by kernel_rfl) (by kernel_rfl) (by kernel_rfl) rfl rfl NF S0 (fun w' hw' => by go_simp) ?_; (try simp only [Act.put, List.setIfInBounds_toArray, List.set_cons_zero, List.set_cons_succ])
          refine takeC 5 49 rfl (by kernel_rfl) (by kernel_rfl) (by kernel_rfl) (by kernel_rfl) rfl rfl rfl HC2.out (own _ (by omega)) (fun _ _ _ h => h) i z47 [.int .i64 x.f0, .int .i64 x.f1] 2 HI'.out (fun _ c h => by rw [← HX.out] at h; exact k47_cs c h) NF S0 rfl row47 rfl ?_; (try simp only [Act.put, List.setIfInBounds_toArray, List.set_cons_zero, List.set_cons_succ])
          refine takeR 6 50 rfl (by kernel_rfl) (by kernel_rfl) (by kernel_rfl) (by kernel_rfl) rfl rfl rfl F0.out (own _ (by omega)) NF S0 rfl row26 ?_; (try simp only [Act.put, List.setIfInBounds_toArray, List.set_cons_zero, List.set_cons_succ])
          refine takeR 7 51 rfl (by kernel_rfl) (by kernel_rfl) (by kernel_rfl) (by kernel_rfl) rfl rfl rfl F1.out (own _ (by omega)) NF S0 rfl row45 ?_; (try simp only [Act.put, List.setIfInBounds_toArray, List.set_cons_zero, List.set_cons_succ])
          refine takeY 8 52 (.slice (some ad) l.length cap) rfl (by kernel_rfl) (by kernel_rfl) (by kernel_rfl) (by kernel_rfl) rfl rfl NF S0 (fun w' hw' => by go_simp) ?_; (try simp only [Act.put, List.setIfInBounds_toArray, List.set_cons_zero, List.set_cons_succ])
          refine takeY 9 53 (.int .i64 i) rfl (by kernel_rfl) (by kernel_rfl) (by kernel_rfl) (by kernel_rfl) rfl rfl NF S0 (fun w' hw' => by go_simp) ?_; (try simp only [Act.put, List.setIfInBounds_toArray, List.set_cons_zero, List.set_cons_succ])
          refine takeY 10 54 (.pointer (some (ad.add (i * 2)))) rfl (by kernel_rfl) (by kernel_rfl) (by kernel_rfl) (by kernel_rfl) rfl rfl NF S0 (fun w' hw' => by go_simp) ?_; (try simp only [Act.put, List.setIfInBounds_toArray, List.set_cons_zero, List.set_cons_succ])
          refine takeC 11 55 rfl (by kernel_rfl) (by kernel_rfl) (by kernel_rfl) (by kernel_rfl) rfl rfl rfl HC2.out (own _ (by omega)) (fun _ _ _ h => h) i z47 [.int .i64 x.f0, .int .i64 x.f1] 2 HI'.out (fun _ c h => by rw [← HX.out] at h; exact k47_cs c h) NF S0 rfl row47 rfl ?_; (try simp only [Act.put, List.setIfInBounds_toArray, List.set_cons_zero, List.set_cons_succ])
          refine takeR 13 57 rfl (by kernel_rfl) (by kernel_rfl) (by kernel_rfl) (by kernel_rfl) rfl rfl rfl F2.out (own _ (by omega)) NF S0 rfl row26 ?_; (try simp only [Act.put, List.setIfInBounds_toArray, List.set_cons_zero, List.set_cons_succ])
          refine nextM 12 (by kernel_rfl) rfl (fun K12 hK12 => ?_)
          go_simp
          go_at_call 91
          refine (KeyOf_calls root HKR.out a0 a1 a2 a3 a4 a5 x.f0 x.f1 ((pathF 9 x.f0 x.f1).getD []) HPX.out _).mono ?_
          obtain ⟨K4, hK4⟩ : ∃ K4, K4 = keyI a0 x.f0 x.f1 ((pathF 9 x.f0 x.f1).getD []) root := ⟨_, rfl⟩
          rw [← hK4]
          have HK4 := Aside0.mk hK4
          have HK4o := Aside0.mk (show KOK K4 by rw [hK4]; exact keyI_ok _ _ _ _ _)
          clear hK4
          rintro e4 w4 ⟨rfl, hb4⟩
          have S4 := S0.below hb4
          have R4 := Aside0.mk (Kd.R_below (Kd.R_below HR.out (pw_below_drewN (Below.refl _ _) 1)) hb4)
          have B4 := Aside0.mk (show Below g W3 w4 from (pw_below_drewN HB.out 1).trans (hb4.mono (by show g ≤ wr.heap.size; omega)))
          clear hb4
          refine hK12.out _ _ (fun _ => S4) ?_
          (try simp only [Act.put, List.setIfInBounds_toArray, List.set_cons_zero, List.set_cons_succ])
          refine nextM 14 (by kernel_rfl) rfl (fun K14 hK14 => ?_)
          go_simp
          go_at_call 90
          refine (rEncrypt_calls K4 session HK4o.out HKS.out _).mono ?_
          obtain ⟨K5, hK5⟩ : ∃ K5, K5 = encK K4 session := ⟨_, rfl⟩
          rw [← hK5]
          have HK5 := Aside0.mk hK5
          clear hK5
          rintro e5 w5 ⟨rfl, hb5⟩
          have S5 := S4.below hb5
          have R5 := Aside0.mk (Kd.R_below R4.out hb5)
          have B5 := Aside0.mk (B4.out.trans (hb5.mono (by have := S4.size; omega)))
          clear hb5
          refine hK14.out _ _ (fun _ => S5) ?_
          (try simp only [Act.put, List.setIfInBounds_toArray, List.set_cons_zero, List.set_cons_succ])
          refine takeY 15 59 (lv x.f0 x.f1 K5) rfl (by kernel_rfl) (by kernel_rfl) (by kernel_rfl) (by kernel_rfl) rfl rfl NF S5 (fun w' hw' => by go_simp) ?_; (try simp only [Act.put, List.setIfInBounds_toArray, List.set_cons_zero, List.set_cons_succ])
          refine nextM 16 (by kernel_rfl) rfl (fun K16 hK16 => ?_)
          go_simp
          refine hK16.out _ _ (fun _ => S5.below ((Below.refl _ _).alloc (Nat.le_refl _) _)) ?_
          (try simp only [Act.put, List.setIfInBounds_toArray, List.set_cons_zero, List.set_cons_succ])
          have hg5 : g ≤ w5.heap.size := by have := S5.size; omega
          have hl5 : ((List.take i l).map (itemK a0 root session)).length ≤ 64 := by rw [List.length_map, List.length_take]; have := H64.out; omega
          refine nextM 17 (by kernel_rfl) rfl (fun K17 hK17 => ?_)
          refine Kd.R_append_step k111 (w0 := W3) g (by rfl) _ _ 22 111 (.agg (lc 0 0 z26)) 32 rfl Try.underlying22 info111 rfl (by decide) (by decide) v ((l.take i).map (itemK a0 root session)) ⟨x, K5⟩ (lc x.f0 x.f1 K5).toList (fun j => g < j) (fun _ => False) rfl rfl (k111_mkM _ _ _ ⟨x, K5⟩) (fun _ h => h.elim) (fun j hj => by have := S5.size; omega) R5.out B5.out hg5 (by omega) ?_
          intro v1 w6 hR6 hB6 hg6 hat6
          obtain ⟨A6, n8, n6, rfl⟩ : ∃ A n m, v1 = .slice A n m := by obtain ⟨A, m, h⟩ := Kd.R_slice hR6; exact ⟨A, _, m, h⟩
          have S6 : SO wr nb w6 := S5.grown (NB.out ▸ hg6)
          have R6 := Aside0.mk hR6; have B6 := Aside0.mk hB6
          have GG6 := Aside0.mk (S6.at_ HG.out (own _ (Nat.le_refl _)))
          clear hR6 hB6 hg6 hat6
          refine hK17.out _ _ (fun _ => S6) ?_
          (try simp only [Act.put, List.setIfInBounds_toArray, List.set_cons_zero, List.set_cons_succ])
          refine takeY 18 62 (.pointer (some ⟨g, 0, none⟩)) rfl (by kernel_rfl) (by kernel_rfl) (by kernel_rfl) (by kernel_rfl) rfl rfl NF S6 (fun w' hw' => by go_simp) ?_; (try simp only [Act.put, List.setIfInBounds_toArray, List.set_cons_zero, List.set_cons_succ])
          have c6 := cat GG6.out 0 v rfl
          have f6 := blk_frozen GG6.out 0
          refine nextM 19 (by kernel_rfl) rfl (fun K19 hK19 => ?_)
          go_simp
          refine hK19.out _ _ (fun h => Bool.noConfusion (h : false = true)) ?_
          refine doneM (by kernel_rfl) ?_ _
          have hS6 : wr.heap.size ≤ w6.heap.size := S6.size
          clear S0 S4 S5 S6 own NF
          go_wp2
          obtain ⟨gq, rfl⟩ : ∃ gq, gk = gq + 1 := ⟨gk - 1, by have := HI'.out; have := HI.out; omega⟩
          go_roundg gq
          case measure => omega
          case rel =>
            refine ⟨i + 1, _, by simp, ⟨by have := HI.out; omega⟩, ⟨blk_put GG6.out 0 _ rfl⟩, ⟨?_⟩, ⟨B6.out.setCell (p := ⟨g, 0, none⟩) (Nat.le_refl _) _⟩⟩
            have e : (l.take (i + 1)).map (itemK a0 root session) = (l.take i).map (itemK a0 root session) ++ [⟨x, K5⟩] := by
              rw [drop_cons' l i HI'.out z47, ← HX.out, List.map_append]
              have e2 : itemK a0 root session x = ⟨x, K5⟩ := by rw [HK5.out, HK4.out]; rfl
              simp [e2]
            rw [e]
            exact Kd.R_far R6.out (p := ⟨g, 0, none⟩) (fun j hj => by show j ≠ g; omega) _
        · have hi2 : i = l.length := by have := HI.out; omega
          subst hi2
          obtain ⟨A7, n8, n7, rfl⟩ : ∃ A n m, v = .slice A n m := by obtain ⟨A, m, h⟩ := Kd.R_slice HR.out; exact ⟨A, _, m, h⟩
          go_wp2_with (first
            | ((with_reducible refine ldR rfl rfl HG.out ?_ ?_ ?_); rfl; exact row28)
            | ((with_reducible refine stR rfl rfl F3.out (hc (.slice A7 n8 n7) 0 (.slice none 0 0) z26 K) ?_ ?_ ?_ ?_ ?_ ?_); rfl; rfl; exact row28; rfl; rfl; intro W4 P1))
          refine bodyPost_ret (ret_head rfl rfl rfl P1.at_) rfl ?_
          refine ⟨_, by rw [HK.out]; rfl, ?_, P1.below FB.out (by omega)⟩
          have h1 := Kd.R_step (w1 := W4) HR.out (fun j hj _ => P1.oth j (by omega))
          rw [List.take_length] at h1
          exact Kd.R_mono (Kd.R_lower h1 (by omega)) (fun _ _ => trivial)
end Go.Proofs.Ytafhimeoijmolaa.K
namespace Go.Proofs.Ytafhimeoijmolaa.K
open Go.RowKit  Go.Proofs.YtafhimeoijmolaaW.PrintWords Go.Proofs.YtafhimeoijmolaaW.PrintLast Go.Proofs.YtafhimeoijmolaaW.PrintMore Go.Proofs.Ytafhimeoijmolaa.G
set_option linter.unusedVariables false
set_option linter.unusedSimpArgs false
open Classical in
noncomputable def sealR (a0 a1 a2 a3 a4 a5 : Int) (l : List S47) (root session : S26) : Int × List S111 × S26 :=
  if ValidI a0 a1 a2 a3 a4 a5 then (if 64 < l.length then (4, [], z26) else if subAll a0.toNat a1.toNat l = true then (0, l.map (itemK a0 root session), derK session 53 0) else (31, [], z26)) else (30, [], z26)
def SealPost (err : Int) (its : List S111) (chk : S26) (w : World) (e' : Ending) (w' : World) : Prop :=
  ∃ v, e' = .returned (.tuple #[hv v 0 (.slice none 0 0) z26 chk, .int .i64 err]) ∧ Kd.R k111 111 w' w.heap.size (fun _ => True) v its ∧ Below w.heap.size w w'
theorem sealPost_nil {err : Int} {w : World} {e' : Ending} {w' : World} (h : e' = .returned (.tuple #[hv (.slice none 0 0) 0 (.slice none 0 0) z26 z26, .int .i64 err]) ∧ Below w.heap.size w w') : SealPost err [] z26 w e' w' := ⟨_, h.1, Kd.R_nil _ _ _ _ _, h.2⟩
theorem sub_path {a d : Nat} {x : S47} (ha : 1 ≤ a) (ha3 : a ≤ 3) (hd : d ≤ 6) (h : subI a d x.f0 x.f1 = true) (h1 : (a : Int) ≠ 1) (h2 : x.f1 ≠ 0) : ∃ xs, pathF 9 x.f0 x.f1 = some xs ∧ PathR x.f0 x.f1 xs := by
  obtain ⟨n, m, e1, e2, hn1, _, hn, _, hm⟩ := subI_nat ha hd h
  rw [e1, e2] at h
  rw [e2] at h2
  obtain ⟨hb, hne⟩ := sub_below' ha h (by omega) (by omega)
  refine ⟨_, by rw [e1, e2]; exact path_n hn hm hb, ?_⟩
  rw [e1, e2]
  refine ⟨⟨20, _, rPath_n hn hm hb (Nat.le_refl _), rfl, ?_, by simp⟩⟩
  intro y hy
  obtain ⟨q, _, rfl⟩ := List.mem_map.1 hy
  exact Int.natCast_nonneg q
theorem progSeal (root session : S26) (a0 a1 a2 a3 a4 a5 : Int) (A : Option Addr) (cap : Nat) (l : List S47) (w : World) (hC : Kd.C k47 w A l.length l) (hlc : l.length ≤ cap) :
    Calls Try.prog 38 #[kv root, .agg #[.int .u8 a0, .int .i64 a1, .int .i64 a2, .int .u64 a3, .int .u64 a4, .int .u64 a5], .slice A l.length cap, kv session] w (SealPost (sealR a0 a1 a2 a3 a4 a5 l root session).1 (sealR a0 a1 a2 a3 a4 a5 l root session).2.1 (sealR a0 a1 a2 a3 a4 a5 l root session).2.2 w) := by
  unfold sealR
  by_cases hv : ValidI a0 a1 a2 a3 a4 a5
  · rw [if_pos hv]
    obtain ⟨a, d, rfl, rfl, ha, ha3, hd, rfl, rfl, rfl, rfl⟩ := hv.nat
    by_cases h64 : 64 < l.length
    · rw [if_pos h64]
      exact (Seal_many root session a d 0 0 0 0 A cap l 0 w hC (check_good ha ha3 hd) rfl h64).mono fun _ _ h => sealPost_nil h
    · rw [if_neg h64]
      have he := enter_list l (by omega) ha ha3 hd
      rw [Int.toNat_natCast, Int.toNat_natCast]
      by_cases hs : subAll a d l = true
      · rw [if_pos hs] at he ⊢
        refine (Seal_ok root session a d 0 0 0 0 A cap l 0 a d (strd d) w hC (check_good ha ha3 hd) hlc he rfl (by omega) ?_).mono fun _ _ h => h
        intro x hx h1 h2
        obtain ⟨xs, h3, _⟩ := sub_path ha ha3 hd (List.all_eq_true.1 hs x hx) h1 h2
        exact ⟨xs, h3⟩
      · rw [if_neg hs] at he ⊢
        exact (Seal_e root session a d 0 0 0 0 A cap l 0 0 0 0 31 w hC (check_good ha ha3 hd) hlc he rfl (by omega) (by omega)).mono fun _ _ h => sealPost_nil h
  · rw [if_neg hv]
    exact (Seal_c root session a0 a1 a2 a3 a4 a5 A cap l 30 w hC (check_bad hv) (by omega)).mono fun _ _ h => sealPost_nil h
theorem refSeal (root session : S26) (hkr : KOK root) (hks : KOK session) (a0 a1 a2 a3 a4 a5 : Int) (A : Option Addr) (cap : Nat) (l : List S47) (w : World) (hC : Kd.C k47 w A l.length l) :
    Calls Try.prog 39 #[kv root, .agg #[.int .u8 a0, .int .i64 a1, .int .i64 a2, .int .u64 a3, .int .u64 a4, .int .u64 a5], .slice A l.length cap, kv session] w (SealPost (sealR a0 a1 a2 a3 a4 a5 l root session).1 (sealR a0 a1 a2 a3 a4 a5 l root session).2.1 (sealR a0 a1 a2 a3 a4 a5 l root session).2.2 w) := by
  unfold sealR
  by_cases hv : ValidI a0 a1 a2 a3 a4 a5
  · rw [if_pos hv]
    obtain ⟨a, d, rfl, rfl, ha, ha3, hd, rfl, rfl, rfl, rfl⟩ := hv.nat
    by_cases h64 : 64 < l.length
    · rw [if_pos h64]
      exact (rSeal_many root session a d 0 0 0 0 A cap l w hC (rValid_good ha ha3 hd) h64).mono fun _ _ h => sealPost_nil h
    · rw [if_neg h64]
      rw [Int.toNat_natCast, Int.toNat_natCast]
      have hsub : ∀ x ∈ l, headendref03_IsSubset.f 31 (a : Int) (d : Int) 0 0 0 0 x.f0 x.f1 = some (subI a d x.f0 x.f1) := fun x _ => rSubset_n _ _ _ _ _ _ ha ha3 hd (Nat.le_refl _)
      by_cases hs : subAll a d l = true
      · rw [if_pos hs]
        refine (rSeal_ok root session a d 0 0 0 0 A cap l w hC (rValid_good ha ha3 hd) (by omega) 31 (fun x => subI a d x.f0 x.f1) hsub (fun x hx => List.all_eq_true.1 hs x hx) hkr hks ?_).mono fun _ _ h => h
        intro x hx h1 h2
        obtain ⟨xs, h3, h4⟩ := sub_path ha ha3 hd (List.all_eq_true.1 hs x hx) h1 h2
        rw [h3]
        exact h4
      · rw [if_neg hs]
        refine (rSeal_sub root session a d 0 0 0 0 A cap l w hC (rValid_good ha ha3 hd) (by omega) 31 (fun x => subI a d x.f0 x.f1) hsub ?_).mono fun _ _ h => sealPost_nil h
        unfold subAll at hs
        rw [List.all_eq_true] at hs
        simpa using hs
  · rw [if_neg hv]
    exact (rSeal_v root session a0 a1 a2 a3 a4 a5 A cap l w hC (rValid_bad hv)).mono fun _ _ h => sealPost_nil h
end Go.Proofs.Ytafhimeoijmolaa.K
