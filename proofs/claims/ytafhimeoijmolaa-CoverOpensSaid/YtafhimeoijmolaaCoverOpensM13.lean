/- Texts of this claim, one behind the other, as far as they are used: KE, KI, KO, KU, M2, M7. -/
import Derived.Test.YtafhimeoijmolaaCoverOpensM2
import Derived.Test.YtafhimeoijmolaaCoverOpensM3
import Derived.Test.YtafhimeoijmolaaCoverOpensM7
import Derived.Test.YtafhimeoijmolaaCoverOpensM9
import Derived.Test.YtafhimeoijmolaaCoverOpensM10
import Derived.Test.YtafhimeoijmolaaCoverOpensM11
import Derived.Test.YtafhimeoijmolaaCoverOpensM12
namespace Go.Proofs.Ytafhimeoijmolaa.K
open Go.RowKit Go.Proofs.YtafhimeoijmolaaW.PrintWords Go.Proofs.YtafhimeoijmolaaW.PrintLast Go.Proofs.YtafhimeoijmolaaW.PrintMore Go.Proofs.Ytafhimeoijmolaa.G
set_option linter.unusedVariables false
set_option linter.unusedSimpArgs false
set_option maxHeartbeats 4000000 in
set_option maxRecDepth 100000 in
theorem rDecrypt_calls (k b : S26) (hk : KOK k) (hb : KOK b) (w : World) :
    Calls Try.prog 111 #[kv k, kv b] w fun e w' => e = .returned (kv (decK k b)) ∧ Below w.heap.size w w' := by
  have hu26 := Try.underlying26
  have HKk := Aside0.mk hk
  have HKb := Aside0.mk hb
  clear hk hb
  go_enter Try.func111, Try.ntmps111
  go_wp2_with fail
  go_at_call 137
  refine (words_calls b HKb.out _).mono ?_
  rintro e1 w1 ⟨rfl, hb1⟩
  have hK1 : w1.heap[w.heap.size]? = some (.cells (kc k) 26 (0, 0)) := blk_to (blk_alloc (blk_alloc (newAt rfl) _) _) hb1
  have hR1 : w1.heap[w.heap.size + 1 + 1]? = some (.cells (kc z26) 26 (0, 0)) := blk_to (newAt (by simp)) hb1
  have hB1 : Below w.heap.size w w1 := ((((Below.refl _ w).alloc (Nat.le_refl _) _).alloc (by simp) _).alloc (by simp; omega) _).trans (hb1.mono (by simp; omega))
  have HR1 := Aside0.mk hR1; have HB1 := Aside0.mk hB1
  obtain ⟨c0, c1, c2, c3, c4, c5, c6, c7, c8, c9, c10, c11, c12, c13, c14, c15⟩ := cells16 hK1
  clear hb1 hK1 hR1 hB1
  go_wp2_with fail
  go_at_call 138
  refine (roundKeys_calls k HKk.out _).mono ?_
  rintro e2 w2 ⟨v2, rfl, hr2, hb2⟩
  obtain ⟨A, c, rfl, hlc, hC⟩ := Kd.R_reads hr2
  have hl32 : (rks (wds k) 32).length = 32 := by simp [rks]
  rw [hl32] at hlc hC ⊢
  have HR2 := Aside0.mk (blk_to HR1.out hb2); have HB2 := Aside0.mk (HB1.out.trans (hb2.mono HB1.out.size)); have HC2 := Aside0.mk hC
  obtain ⟨ad, rfl, -⟩ := at_ints hC 0 (by omega)
  clear hr2 hb2 hC HR1 HB1 c0 c1 c2 c3 c4 c5 c6 c7 c8 c9 c10 c11 c12 c13 c14 c15
  go_wp2
  go_loopg [5, 6, 8] 32 (fun kq v5 v6 v8 w' => ∃ j : Nat, v8 = .int .i64 (31 - (j : Int)) ∧ v5 = .int .u64 (decN (wds k) (wds b) j).1 ∧ v6 = .int .u64 (decN (wds k) (wds b) j).2 ∧ Aside0 (j + kq = 32) ∧ Aside0 (w'.heap[w.heap.size + 1 + 1]? = some (.cells (kc z26) 26 (0, 0))) ∧ Aside0 (Kd.C (Kd.int .u64) w' (some ad) 32 (rks (wds k) 32)) ∧ Aside0 (Below w.heap.size w w'))
  case atStart => exact ⟨0, rfl, rfl, rfl, ⟨rfl⟩, HR2, HC2, HB2⟩
  case round =>
    obtain ⟨j, rfl, rfl, rfl, HI, B0, B1, HB⟩ := hrel
    obtain ⟨q, hq⟩ : ∃ q, q = decN (wds k) (wds b) j := ⟨_, rfl⟩
    have hq' := Aside0.mk hq
    rw [← hq]
    clear hq
    by_cases hi : j < 32
    · have b0 : decide (31 - (j : Int) ≥ 0) = true := decide_eq_true (by omega)
      have b1 : 0 ≤ 31 - (j : Int) := by omega
      have b2 : 31 - (j : Int) < 32 := by omega
      have b3 : (31 - (j : Int)).toNat = 31 - j := by omega
      have hi' := Aside0.mk hi
      obtain ⟨ad2, e2, c0⟩ := at_ints B1.out (31 - j) (by omega)
      obtain rfl := Option.some.inj e2
      rw [rks_at _ _ (by omega)] at c0
      clear hi e2
      go_wp2_with fail
      go_at_call 139
      refine (Z.headendref02_rotr.calls _ _ _ _ (rotr_3 _)).mono ?_
      rintro e3 w3 ⟨rfl, ⟨n3, rfl⟩⟩
      have c1 : (wr.drewN n3).cell? (ad.add (31 - j)) = some (.int .u64 (ks (wds k) (31 - j)).2) := c0
      go_wp2_with fail
      go_at_call 140
      refine (Z.headendref02_rotl.calls _ _ _ _ (rotl_8 _)).mono ?_
      rintro e4 w4 ⟨rfl, ⟨n4, rfl⟩⟩
      have hw : IntKind.i64.wrap (31 - (j : Int) - 1) = 31 - ((j + 1 : Nat) : Int) := by rw [IntKind.wrap_i64]; omega
      go_wp2
      obtain ⟨gq, rfl⟩ : ∃ gq, gk = gq + 1 := ⟨gk - 1, by have := hi'.out; have := HI.out; omega⟩
      go_roundg gq
      case measure => omega
      case rel =>
        have exy : Go.bits .xor .u64 q.2 q.1 = Go.bits .xor .u64 q.1 q.2 := xor_comm' _ _
        refine ⟨j + 1, by (first | (simp; done) | (simp [wrap64]; omega)), ?_, ?_, ⟨by have := HI.out; omega⟩, ⟨?_⟩, ⟨?_⟩, ⟨?_⟩⟩
        · show _ = Value.int .u64 (bck (decN (wds k) (wds b) j) (ks (wds k) (31 - j)).2).1
          rw [← hq'.out, exy]; rfl
        · show _ = Value.int .u64 (bck (decN (wds k) (wds b) j) (ks (wds k) (31 - j)).2).2
          rw [← hq'.out, exy]; rfl
        · exact B0.out
        · exact Kd.C_below B1.out (pw_below_drewN (Below.refl _ _) _)
        · exact pw_below_drewN HB.out _
    · have h32 : j = 32 := by have := HI.out; omega
      subst h32
      have b0 : decide (31 - ((32 : Nat) : Int) ≥ 0) = false := by decide
      have hqo : POK q := by rw [hq'.out]; exact bck_ok _ _
      have Q0 := Aside0.mk hqo
      clear hqo
      go_wp2_with fail
      go_at_call 141
      refine (rblock_calls q.1 q.2 Q0.out.1 Q0.out.2 _).mono ?_
      rintro e5 w5 ⟨rfl, hb5⟩
      obtain ⟨K, hKK⟩ : ∃ K, K = blockK q.1 q.2 := ⟨_, rfl⟩
      rw [← hKK]
      have hK' := Aside0.mk hKK
      have b2 := blk_to B0.out hb5
      obtain ⟨d0, d1, d2, d3, d4, d5, d6, d7, d8, d9, d10, d11, d12, d13, d14, d15⟩ := cells16 b2
      obtain ⟨f0, f1, f2, f3, f4, f5, f6, f7, f8, f9, f10, f11, f12, f13, f14, f15⟩ := frozen16 b2
      have B10 := Aside0.mk b2; have B11 := Aside0.mk hb5
      clear b2 hb5 hKK
      go_wp2
      refine bodyPost_ret (results_cell_row rfl _ _ (w.heap.size + 1 + 1) 26 (kc K) (0, 0) _ rfl (putK_at B10.out K) Try.underlying26 rfl (by kernel_rfl)) rfl ?_
      refine ⟨by rw [hK'.out, hq'.out]; rfl, putK_below (HB.out.trans (B11.out.mono HB.out.size)) (by omega)⟩
end Go.Proofs.Ytafhimeoijmolaa.K
namespace Go.Proofs.Ytafhimeoijmolaa.K
open Go.RowKit  Go.Proofs.YtafhimeoijmolaaW.PrintWords Go.Proofs.YtafhimeoijmolaaW.PrintLast Go.Proofs.YtafhimeoijmolaaW.PrintMore Go.Proofs.Ytafhimeoijmolaa.G
set_option linter.unusedVariables false
set_option linter.unusedSimpArgs false
def stepK (k : S26) (x : Int) : S26 := derK k (if Int.tmod x 2 = 1 then 32 else 31) 0
theorem stepK_ok (k : S26) (x : Int) : KOK (stepK k x) := derK_ok _ _ _
theorem wok0 : WOK 0 := by unfold WOK; omega
set_option maxHeartbeats 4000000 in
set_option maxRecDepth 100000 in
theorem step_calls (k : S26) (hk : KOK k) (x : Int) (hx : 0 ≤ x) (w : World) :
    Calls Try.prog 169 #[kv k, .int .i64 x] w fun e w' => e = .returned (kv (stepK k x)) ∧ Below w.heap.size w w' := by
  obtain ⟨W0, hW0⟩ : ∃ W0, ((w.alloc (.cells (kc k) 26)).alloc (.cells (kc z26) 26)) = W0 := ⟨_, rfl⟩
  have B0 := Aside0.mk (show W0.heap[w.heap.size]? = some (.cells (kc k) 26 (0, 0)) by rw [← hW0]; exact (blk_alloc (newAt rfl) _))
  have B1 := Aside0.mk (show W0.heap[w.heap.size + 1]? = some (.cells (kc z26) 26 (0, 0)) by rw [← hW0]; exact (newAt (by simp)))
  have BB := Aside0.mk (show Below w.heap.size w W0 by rw [← hW0]; exact (((Below.refl _ w).alloc (Nat.le_refl _) _).alloc (by simp) _))
  have BBs := Aside0.mk (show w.heap.size + 2 = W0.heap.size by rw [← hW0]; simp)
  have HW := Aside0.mk hW0
  clear hW0
  have HK := Aside0.mk hk
  have HX := Aside0.mk hx
  obtain ⟨R, hR⟩ : ∃ R, R = stepK k x := ⟨_, rfl⟩
  rw [← hR]
  have HR := Aside0.mk hR
  clear hk hR
  by_cases h0 : Int.tmod x 2 = 0
  · have b0 : (Int.tmod x 2 == 0) = true := beq_iff_eq.mpr h0
    have b1 : (x % 2 == 0) = true := by rw [Int.tmod_eq_emod_of_nonneg hx] at h0; exact beq_iff_eq.mpr h0
    have E1 := Aside0.mk (show R = derK k 31 0 by rw [HR.out]; unfold stepK; rw [if_neg (by omega)])
    clear h0 HR
    go_enter Try.func169, Try.ntmps169
    go_wp2_with fail
    go_at_call 89
    refine (rDerive_calls k 31 0 HK.out (by omega) wok0 _).mono ?_
    have e0 := HW.out
    rintro e1 w1 ⟨rfl, hb1⟩
    have hb1' : Below W0.heap.size W0 w1 := by rw [← e0]; exact hb1
    have C1 := Aside0.mk (blk_to B1.out hb1')
    have CB := Aside0.mk (BB.out.trans (hb1'.mono BB.out.size))
    obtain ⟨K, hK⟩ : ∃ K, K = derK k 31 0 := ⟨_, rfl⟩
    rw [← hK]
    have HK1 := Aside0.mk hK
    clear hb1 hb1' e0 hK
    go_wp2_with (first | ((with_reducible refine stR rfl rfl C1.out (kc K) ?_ ?_ ?_ ?_ ?_ ?_); rfl; rfl; exact row26; rfl; rfl; intro W2 P1))
    refine bodyPost_ret (results_cell_row rfl _ _ _ 26 _ (0, 0) _ rfl P1.at_ Try.underlying26 rfl (by kernel_rfl)) rfl ?_
    exact ⟨by rw [E1.out, HK1.out], P1.below CB.out (by omega)⟩
  · have b0 : (Int.tmod x 2 == 0) = false := beq_eq_false_iff_ne.mpr h0
    have b1 : (x % 2 == 0) = false := by rw [Int.tmod_eq_emod_of_nonneg hx] at h0; exact beq_eq_false_iff_ne.mpr h0
    have E1 := Aside0.mk (show R = derK k 32 0 by rw [HR.out]; unfold stepK; rw [if_pos (by rw [Int.tmod_eq_emod_of_nonneg hx] at *; omega)])
    clear h0 HR
    go_enter Try.func169, Try.ntmps169
    go_wp2_with fail
    go_at_call 89
    refine (rDerive_calls k 32 0 HK.out (by omega) wok0 _).mono ?_
    have e0 := HW.out
    rintro e1 w1 ⟨rfl, hb1⟩
    have hb1' : Below W0.heap.size W0 w1 := by rw [← e0]; exact hb1
    have C1 := Aside0.mk (blk_to B1.out hb1')
    have CB := Aside0.mk (BB.out.trans (hb1'.mono BB.out.size))
    obtain ⟨K, hK⟩ : ∃ K, K = derK k 32 0 := ⟨_, rfl⟩
    rw [← hK]
    have HK1 := Aside0.mk hK
    clear hb1 hb1' e0 hK
    go_wp2_with (first | ((with_reducible refine stR rfl rfl C1.out (kc K) ?_ ?_ ?_ ?_ ?_ ?_); rfl; rfl; exact row26; rfl; rfl; intro W2 P1))
    refine bodyPost_ret (results_cell_row rfl _ _ _ 26 _ (0, 0) _ rfl P1.at_ Try.underlying26 rfl (by kernel_rfl)) rfl ?_
    exact ⟨by rw [E1.out, HK1.out], P1.below CB.out (by omega)⟩
theorem descK_step (k : S26) (xs : List Int) (x : Int) : descK k (xs ++ [x]) = stepK (descK k xs) x := by unfold descK stepK; rw [List.foldl_append]; rfl
set_option maxHeartbeats 4000000 in
set_option maxRecDepth 100000 in
theorem down_calls (k : S26) (hk : KOK k) (f t : Int) (p : List Int) (hpos : ∀ x ∈ p, 0 ≤ x) (h1 : 1 ≤ p.length) (kk : Nat) (hp : headendref03_Path.f kk f t = some p) (w : World) :
    Calls Try.prog 148 #[kv k, .int .i64 f, .int .i64 t] w fun e w' => e = .returned (kv (descK k (p.drop 1))) ∧ Below w.heap.size w w' := by
  obtain ⟨W0, hW0⟩ : ∃ W0, ((w.alloc (.cells (kc k) 26)).alloc (.cells (kc z26) 26)) = W0 := ⟨_, rfl⟩
  have B0 := Aside0.mk (show W0.heap[w.heap.size]? = some (.cells (kc k) 26 (0, 0)) by rw [← hW0]; exact (blk_alloc (newAt rfl) _))
  have B1 := Aside0.mk (show W0.heap[w.heap.size + 1]? = some (.cells (kc z26) 26 (0, 0)) by rw [← hW0]; exact (newAt (by simp)))
  have BB := Aside0.mk (show Below w.heap.size w W0 by rw [← hW0]; exact (((Below.refl _ w).alloc (Nat.le_refl _) _).alloc (by simp) _))
  have BBs := Aside0.mk (show w.heap.size + 2 = W0.heap.size by rw [← hW0]; simp)
  have HW := Aside0.mk hW0
  clear hW0
  have HK := Aside0.mk hk; have HP := Aside0.mk hpos
  have e0 := HW.out
  obtain ⟨R, hR⟩ : ∃ R, R = descK k (p.drop 1) := ⟨_, rfl⟩
  rw [← hR]
  have HR := Aside0.mk hR
  clear hR
  go_enter Try.func148, Try.ntmps148
  go_wp2_with fail
  go_at_call 114
  refine (headendref03_Path.calls kk f t p _ hp).mono ?_
  rintro e1 w1 ⟨v1, rfl, hr1, hb1⟩
  have hb1' : Below W0.heap.size W0 w1 := by rw [← e0]; exact hb1
  have hr1' : Kd.R (Kd.int .i64) 3 w1 W0.heap.size (fun _ => True) v1 p := by rw [← e0]; exact hr1
  have C0 := Aside0.mk (blk_to B0.out hb1'); have C1 := Aside0.mk (blk_to B1.out hb1')
  have CB := Aside0.mk (BB.out.trans (hb1'.mono BB.out.size))
  have CR := Aside0.mk hr1'
  obtain ⟨A, c, rfl, hlc, hC⟩ := Kd.R_reads hr1'
  have hlen : p.length ≤ 9223372036854775807 := hC.2.1
  have HW0 := BBs.out
  clear hb1 hb1' hr1 hr1' e0 hpos hk hp hlc hC B0 B1 BB BBs HW
  go_wp2
  go_loopg [8] p.length (fun kq v8 w' => ∃ (i : Nat), v8 = .int .i64 (i : Int) ∧ Aside0 ((1 ≤ i ∧ i ≤ p.length) ∧ i + kq = p.length + 1) ∧ Aside0 (w'.heap[w.heap.size]? = some (.cells (kc (descK k ((p.take i).drop 1))) 26 (0, 0))) ∧ Aside0 (KOK (descK k ((p.take i).drop 1))) ∧ Aside0 (w'.heap[w.heap.size + 1]? = some (.cells (kc z26) 26 (0, 0))) ∧ Aside0 (Kd.R (Kd.int .i64) 3 w' W0.heap.size (fun _ => True) (.slice A p.length c) p) ∧ Aside0 (Below w.heap.size w w'))
  case atStart =>
    refine ⟨1, rfl, ⟨⟨Nat.le_refl _, h1⟩, by omega⟩, ?_, ?_, C1, CR, CB⟩
    · match p, h1 with
      | a :: l, _ => exact C0
    · match p, h1 with
      | a :: l, _ => exact HK
  case round =>
    obtain ⟨i, rfl, HI, D0, DK, D1, DR, DB⟩ := hrel
    obtain ⟨K, hK⟩ : ∃ K, K = descK k ((p.take i).drop 1) := ⟨_, rfl⟩
    rw [← hK] at D0 DK
    have HKK := Aside0.mk hK
    clear hK
    by_cases hi : i < p.length
    · have HI' := Aside0.mk hi
      obtain ⟨x, hx⟩ : ∃ x, x = p.getD i 0 := ⟨_, rfl⟩
      have HX := Aside0.mk hx
      obtain ⟨_, _, hC⟩ := Kd.R_reads' DR.out
      obtain ⟨ad, rfl, hc⟩ := at_ints hC i (by omega)
      rw [← hx] at hc
      have HC := Aside0.mk hC
      have b2 : (i : Int) < (p.length : Int) := by omega
      have hx0 : 0 ≤ x := by rw [hx]; exact HP.out _ (by simp [hi])
      have hcs : ∀ w', SO wr none w' → w'.cell? (ad.add i) = some (.int .i64 x) := fun w' hw' => by
        have hb := World.block_lt_of_cell? wr _ hc
        have := hw'.blk _ hb (by simp)
        rw [← hc]; unfold World.cell?; rw [this]
      have HCS := Aside0.mk hcs
      have HX0 := Aside0.mk hx0
      clear hx hi hC hcs hx0
      go_wp2_with fail
      refine beginB none 6 7 rfl (by repeat (first | exact nf_body | refine nf_then ?_ | refine nf_block ?_)) (fun NF S0 => ?_)
      refine takeR 0 18 rfl (by kernel_rfl) (by kernel_rfl) (by kernel_rfl) (by kernel_rfl) rfl rfl rfl D0.out (by simp) NF S0 rfl row26 ?_; (try simp only [Act.put, List.setIfInBounds_toArray, List.set_cons_zero, List.set_cons_succ])
      refine takeY 1 19 (.slice (some ad) p.length c) rfl (by kernel_rfl) (by kernel_rfl) (by kernel_rfl) (by kernel_rfl) rfl rfl NF S0 (fun w' hw' => by go_simp) ?_; (try simp only [Act.put, List.setIfInBounds_toArray, List.set_cons_zero, List.set_cons_succ])
      refine takeY 2 20 (.int .i64 i) rfl (by kernel_rfl) (by kernel_rfl) (by kernel_rfl) (by kernel_rfl) rfl rfl NF S0 (fun w' hw' => by go_simp) ?_; (try simp only [Act.put, List.setIfInBounds_toArray, List.set_cons_zero, List.set_cons_succ])
      refine takeY 3 21 (.pointer (some (ad.add i))) rfl (by kernel_rfl) (by kernel_rfl) (by kernel_rfl) (by kernel_rfl) rfl rfl NF S0 (fun w' hw' => by go_simp) ?_; (try simp only [Act.put, List.setIfInBounds_toArray, List.set_cons_zero, List.set_cons_succ])
      refine takeY 4 22 (.int .i64 x) rfl (by kernel_rfl) (by kernel_rfl) (by kernel_rfl) (by kernel_rfl) rfl rfl NF S0 (fun w' hw' => by have c := HCS.out w' hw'; go_simp) ?_; (try simp only [Act.put, List.setIfInBounds_toArray, List.set_cons_zero, List.set_cons_succ])
      refine nextM 5 (by kernel_rfl) rfl (fun K5 hK5 => ?_)
      go_simp
      go_at_call 169
      refine (step_calls K DK.out x HX0.out _).mono ?_
      obtain ⟨K2, hK2⟩ : ∃ K2, K2 = stepK K x := ⟨_, rfl⟩
      rw [← hK2]
      have HK2 := Aside0.mk hK2
      clear hK2
      rintro e2 w2 ⟨rfl, hb2⟩
      have S2 := S0.below hb2
      refine hK5.out _ _ (fun _ => S2) ?_
      (try simp only [Act.put, List.setIfInBounds_toArray, List.set_cons_zero, List.set_cons_succ])
      refine nextM 6 (by kernel_rfl) rfl (fun K6 hK6 => ?_)
      rw [if_pos (by rfl)]
      have F0 := Aside0.mk (blk_to (blk_drew D0.out) hb2)
      refine wp_stR (ty := 26) rfl F0.out (kc K2) rfl rfl row26 rfl rfl (fun W2 P1 => ?_)
      refine hK6.out _ _ (fun h => Bool.noConfusion (h : false = true)) ?_
      refine doneM (by kernel_rfl) ?_ _
      have F1 := Aside0.mk (P1.blk (blk_to (blk_drew D1.out) hb2) (by omega))
      have FB := Aside0.mk (P1.below ((DB.out.drew).trans (hb2.mono DB.out.size)) (Nat.le_refl _))
      have FR := Aside0.mk (Kd.R_step (w1 := W2) (Kd.R_bound (Kd.R_below (Kd.R_below DR.out ((Below.refl _ _).drew)) hb2)) (fun j hj _ => P1.oth j (by have := hj.2.1; omega)))
      have FA := Aside0.mk P1.at_
      clear S0 S2 NF hb2 P1
      go_wp2
      obtain ⟨gq, rfl⟩ : ∃ gq, gk = gq + 1 := ⟨gk - 1, by have := HI'.out; have := HI.out; omega⟩
      go_roundg gq
      case measure => omega
      case rel =>
        have e : (p.take (i + 1)).drop 1 = (p.take i).drop 1 ++ [x] := by
          have h1 := HI.out.1.1; have h2 := HI'.out
          rw [List.take_succ_eq_append_getElem h2, List.drop_append_of_le_length (by rw [List.length_take]; omega), HX.out]
          simp [h2]
        refine ⟨i + 1, by simp, ⟨⟨by omega, HI'.out⟩, by have := HI.out; omega⟩, ?_, ?_, F1, ⟨Kd.R_mono FR.out (fun _ _ => trivial)⟩, FB⟩
        · rw [e, descK_step, ← HKK.out, ← HK2.out]; exact FA
        · rw [e, descK_step]; exact ⟨stepK_ok _ _⟩
    · have hi2 : i = p.length := by have := HI.out; omega
      subst hi2
      have b2 : ¬ ((p.length : Int) < (p.length : Int)) := by omega
      go_wp2_with (first
        | ((with_reducible refine ldR rfl rfl D0.out ?_ ?_ ?_); rfl; exact row26)
        | ((with_reducible refine stR rfl rfl D1.out (kc K) ?_ ?_ ?_ ?_ ?_ ?_); rfl; rfl; exact row26; rfl; rfl; intro W4 P1))
      refine bodyPost_ret (results_cell_row rfl _ _ _ 26 _ (0, 0) _ rfl P1.at_ Try.underlying26 rfl (by kernel_rfl)) rfl ?_
      refine ⟨?_, P1.below DB.out (by omega)⟩
      have e : R = K := by rw [HR.out, HKK.out, List.take_length]
      rw [e]
end Go.Proofs.Ytafhimeoijmolaa.K
namespace Go.Proofs.Ytafhimeoijmolaa.K
open Go.RowKit  Go.Proofs.YtafhimeoijmolaaW.PrintWords Go.Proofs.YtafhimeoijmolaaW.PrintLast Go.Proofs.YtafhimeoijmolaaW.PrintMore Go.Proofs.Ytafhimeoijmolaa.G
set_option linter.unusedVariables false
set_option linter.unusedSimpArgs false
structure PathR (v t : Int) (xs : List Int) : Prop where
  mk :: (out : ∃ kk p, headendref03_Path.f kk v t = some p ∧ p.drop 1 = xs ∧ (∀ x ∈ p, 0 ≤ x) ∧ 1 ≤ p.length)
end Go.Proofs.Ytafhimeoijmolaa.K
namespace Go.Proofs.Ytafhimeoijmolaa.K
open Go.RowKit  Go.Proofs.YtafhimeoijmolaaW.PrintWords Go.Proofs.YtafhimeoijmolaaW.PrintLast Go.Proofs.YtafhimeoijmolaaW.PrintMore Go.Proofs.Ytafhimeoijmolaa.G
set_option linter.unusedVariables false
set_option linter.unusedSimpArgs false
theorem descK_ok {k : S26} (hk : KOK k) (xs : List Int) : KOK (descK k xs) := by
  unfold descK
  have : ∀ (l : List Int) (q : S26), KOK q → KOK (l.foldl (fun k x => derK k (if Int.tmod x 2 = 1 then 32 else 31) 0) q) := by
    intro l
    induction l with
    | nil => exact fun q h => h
    | cons a l ih => exact fun q _ => ih _ (derK_ok _ _ _)
  exact this _ _ hk
theorem getD_mem {α : Type} (l : List α) (i : Nat) (h : i < l.length) (z : α) : l.getD i z ∈ l := by simp [h]
end Go.Proofs.Ytafhimeoijmolaa.K
namespace Go.Proofs.Ytafhimeoijmolaa.K
open Go.RowKit  Go.Proofs.YtafhimeoijmolaaW.PrintWords Go.Proofs.YtafhimeoijmolaaW.PrintLast Go.Proofs.YtafhimeoijmolaaW.PrintMore Go.Proofs.Ytafhimeoijmolaa.G
set_option linter.unusedVariables false
set_option linter.unusedSimpArgs false
structure LabOK (a0 a1 a2 a3 a4 a5 v t : Int) (ls : List S83) : Prop where
  lead : ∀ l ∈ ls, ∃ b, leadsF a0 l.f0 l.f1 v t = some b ∧ headendref03_leads.f 100 a0 a1 a2 a3 a4 a5 l.f0 l.f1 v t = some b ∧ (b = true → a0 ≠ 1 → t ≠ 0 → PathR l.f1 t ((pathF 9 l.f1 t).getD []))
  key : ∀ l ∈ ls, KOK l.f2
set_option maxHeartbeats 4000000 in
set_option maxRecDepth 100000 in
theorem rLeads_calls (a0 a1 a2 a3 a4 a5 rcv p q : Int) (A : Option Addr) (cap : Nat) (ls : List S83) (v t : Int) (r : S26 × Bool) (w : World) (hC : Kd.C k83 w A ls.length ls) (hl : LabOK a0 a1 a2 a3 a4 a5 v t ls) (h : findF a0 v t ls = some r) :
    Calls Try.prog 110 #[.agg #[.int .u8 a0, .int .i64 a1, .int .i64 a2, .int .u64 a3, .int .u64 a4, .int .u64 a5], sv rcv A ls.length cap p q, .agg #[.int .i64 v, .int .i64 t]] w fun e w' => e = .returned (.tuple #[kv r.1, .bool r.2]) ∧ Below w.heap.size w w' := by
  obtain ⟨W0, hW0⟩ : ∃ W0, ((((w.alloc (.cells #[.int .u8 a0, .int .i64 a1, .int .i64 a2, .int .u64 a3, .int .u64 a4, .int .u64 a5] 45)).alloc (.cells (sc rcv A ls.length cap p q) 76)).alloc (.cells #[.int .i64 v, .int .i64 t] 47)).alloc (.cells (kc z26) 26)) = W0 := ⟨_, rfl⟩
  have B0 := Aside0.mk (show W0.heap[w.heap.size]? = some (.cells #[.int .u8 a0, .int .i64 a1, .int .i64 a2, .int .u64 a3, .int .u64 a4, .int .u64 a5] 45 (0, 0)) by rw [← hW0]; exact (blk_alloc (blk_alloc (blk_alloc (newAt rfl) _) _) _))
  have B1 := Aside0.mk (show W0.heap[w.heap.size + 1]? = some (.cells (sc rcv A ls.length cap p q) 76 (0, 0)) by rw [← hW0]; exact (blk_alloc (blk_alloc (newAt (by simp)) _) _))
  have B2 := Aside0.mk (show W0.heap[w.heap.size + 1 + 1]? = some (.cells #[.int .i64 v, .int .i64 t] 47 (0, 0)) by rw [← hW0]; exact (blk_alloc (newAt (by simp)) _))
  have B3 := Aside0.mk (show W0.heap[w.heap.size + 1 + 1 + 1]? = some (.cells (kc z26) 26 (0, 0)) by rw [← hW0]; exact (newAt (by simp)))
  have BB := Aside0.mk (show Below w.heap.size w W0 by rw [← hW0]; exact (((((Below.refl _ w).alloc (Nat.le_refl _) _).alloc (by simp) _).alloc (by simp; omega) _).alloc (by simp; omega) _))
  have BBs := Aside0.mk (show w.heap.size + 4 = W0.heap.size by rw [← hW0]; simp)
  have HW := Aside0.mk hW0
  clear hW0
  have hlen : ls.length ≤ 9223372036854775807 := hC.2.1
  have H0 := Aside0.mk h
  have HLO := Aside0.mk hl
  have HC := Aside0.mk (show Kd.C k83 W0 A ls.length ls by rw [← HW.out]; exact Kd.C_below hC (((((Below.refl _ w).alloc (Nat.le_refl _) _).alloc (by simp) _).alloc (by simp; omega) _).alloc (by simp; omega) _))
  have HL := Aside0.mk hlen
  clear hC h hl
  go_enter Try.func110, Try.ntmps110
  go_wp2
  show Code.wp _ _ _ _ ((((w.alloc (.cells #[.int .u8 a0, .int .i64 a1, .int .i64 a2, .int .u64 a3, .int .u64 a4, .int .u64 a5] 45)).alloc (.cells (sc rcv A ls.length cap p q) 76)).alloc (.cells #[.int .i64 v, .int .i64 t] 47)).alloc (.cells (kc z26) 26))
  rw [HW.out]
  go_loopg [8] ls.length (fun kq v8 w' => ∃ i : Nat, v8 = .int .i64 (i : Int) ∧ Aside0 (i + kq = ls.length) ∧ Aside0 (findF a0 v t (ls.drop i) = some r) ∧ Aside0 (Below W0.heap.size W0 w'))
  case atStart => exact ⟨0, rfl, ⟨by omega⟩, ⟨H0.out⟩, ⟨Below.refl _ _⟩⟩
  case round =>
    obtain ⟨i, rfl, HI, HF, HB⟩ := hrel
    have C0 := Aside0.mk (blk_to B0.out HB.out); have C1 := Aside0.mk (blk_to B1.out HB.out); have C2 := Aside0.mk (blk_to B2.out HB.out); have C3 := Aside0.mk (blk_to B3.out HB.out)
    have CB := Aside0.mk (BB.out.trans (HB.out.mono BB.out.size))
    have CC := Aside0.mk (Kd.C_below HC.out HB.out)
    have CS := Aside0.mk (show w.heap.size + 4 ≤ wr.heap.size by have := HB.out.size; have := BBs.out; omega)
    have HB0 := HB
    have d1 := cat C1.out 1 (.slice A ls.length cap) rfl
    clear HB B0 B1 B2 B3 BB BBs HW H0 HC hlen
    by_cases hi : i < ls.length
    · have HI' := Aside0.mk hi
      obtain ⟨l, hl⟩ : ∃ l, l = ls.getD i z83 := ⟨_, rfl⟩
      have hlm : l ∈ ls := by rw [hl]; exact getD_mem ls i hi z83
      have HLl := Aside0.mk hl
      have hf := HF.out
      rw [drop_cons ls i hi z83, ← hl] at hf
      simp only [findF] at hf
      obtain ⟨q1, hq1, hf⟩ := Option.bind_eq_some_iff.mp hf
      obtain ⟨b, hb1, hb2, hb3⟩ := HLO.out.lead l hlm
      have ebq : b = q1 := Option.some.inj (hb1.symm.trans hq1)
      subst ebq
      have HQ := Aside0.mk hb2
      have HPA := Aside0.mk hb3
      have HKO := Aside0.mk (HLO.out.key l hlm)
      have HF2 := Aside0.mk hf
      obtain ⟨ad, cc, rfl, -⟩ := Kd.C_get CC.out z83 (i : Int) (by omega) (by omega)
      have b1 : (i : Int) < (ls.length : Int) := by omega
      have b2 : (ls.length : Int) ≤ 9223372036854775807 := by have := HL.out; omega
      clear hl hf hq1 hi HF hb1 hb2 hb3 hlm
      have hcs : w.heap.size + 4 ≤ wr.heap.size := CS.out
      go_wp2_with (first
        | ((with_reducible refine ldC rfl rfl CC.out i z83 (lc l.f0 l.f1 l.f2).toList 18 ?_ ?_ ?_ ?_ ?_ ?_); rfl; exact HI'.out; (rw [← HLl.out]; exact k83_cs); exact row83; rfl)
        | (((with_reducible refine stR rfl rfl (newAt rfl) (lc l.f0 l.f1 l.f2) ?_ ?_ ?_ ?_ ?_ ?_); rfl; rfl; exact row83; rfl; rfl; intro W2 P1); have D0 := Aside0.mk (P1.blk (blk_alloc C0.out _) (by omega)); have D2 := Aside0.mk (P1.blk (blk_alloc C2.out _) (by omega)); have D3 := Aside0.mk (P1.blk (blk_alloc C3.out _) (by omega)); have D1 := Aside0.mk P1.at_; have DB := Aside0.mk (P1.below (CB.out.alloc CB.out.size _) (by omega)); have DW := Aside0.mk (show Below wr.heap.size wr W2 from P1.below ((Below.refl _ wr).alloc (Nat.le_refl _) _) (Nat.le_refl _)); clear P1; have x0 := cat D1.out 0 (.int .i64 l.f0) rfl; have x1 := cat D1.out 1 (.int .i64 l.f1) rfl)
        | ((with_reducible refine ldR rfl rfl D0.out ?_ ?_ ?_); rfl; exact row45)
        | ((with_reducible refine ldR rfl rfl D2.out ?_ ?_ ?_); rfl; exact row47))
      go_at_call 147
      refine (headendref03_leads.calls 100 a0 a1 a2 a3 a4 a5 l.f0 l.f1 v t b _ HQ.out).mono ?_
      rintro e1 w1 ⟨rfl, hb1⟩
      have E0 := Aside0.mk (blk_to D0.out hb1)
      have E1 := Aside0.mk (blk_to D1.out hb1)
      have E2 := Aside0.mk (blk_to D2.out hb1)
      have E3 := Aside0.mk (blk_to D3.out hb1)
      have EB := Aside0.mk (DB.out.trans (hb1.mono DB.out.size))
      have EW := Aside0.mk (DW.out.trans (hb1.mono DW.out.size))
      clear hb1 x0 x1
      cases b
      · have hf := HF2.out
        simp only [Bool.false_eq_true, if_false] at hf
        have HF3 := Aside0.mk hf
        clear hf
        go_wp2
        obtain ⟨gq, rfl⟩ : ∃ gq, gk = gq + 1 := ⟨gk - 1, by have := HI'.out; have := HI.out; omega⟩
        go_roundg gq
        case measure => omega
        case rel => exact ⟨i + 1, by simp, ⟨by have := HI.out; omega⟩, ⟨HF3.out⟩, ⟨HB0.out.trans (EW.out.mono HB0.out.size)⟩⟩
      · have hf := HF2.out
        simp only [if_true] at hf
        have x0 := cat E0.out 0 (.int .u8 a0) rfl
        have x1 := cat E2.out 1 (.int .i64 t) rfl
        have x2 := cat E1.out 1 (.int .i64 l.f1) rfl
        by_cases hd : a0 = 1 ∨ t = 0
        · rw [if_pos hd] at hf
          have HR := Aside0.mk (Option.some.inj hf).symm
          by_cases ha : a0 = 1
          · have b3 : (a0 == 1) = true := beq_iff_eq.mpr ha
            clear hf hd ha
            go_wp2_with (first | ((with_reducible refine ldM rfl rfl E1.out 2 (kc l.f2) ?_ ?_ ?_ ?_); rfl; exact row26; rfl) | ((with_reducible refine stR rfl rfl E3.out (kc l.f2) ?_ ?_ ?_ ?_ ?_ ?_); rfl; rfl; exact row26; rfl; rfl; intro W3 P1))
            refine bodyPost_ret (ret_key rfl rfl rfl P1.at_) rfl ?_
            exact ⟨by rw [HR.out]; rfl, P1.below EB.out (by omega)⟩
          · have b3 : (a0 == 1) = false := beq_eq_false_iff_ne.mpr ha
            have b4 : (t == 0) = true := beq_iff_eq.mpr (hd.resolve_left ha)
            clear hf hd ha
            go_wp2_with (first | ((with_reducible refine ldM rfl rfl E1.out 2 (kc l.f2) ?_ ?_ ?_ ?_); rfl; exact row26; rfl) | ((with_reducible refine stR rfl rfl E3.out (kc l.f2) ?_ ?_ ?_ ?_ ?_ ?_); rfl; rfl; exact row26; rfl; rfl; intro W3 P1))
            refine bodyPost_ret (ret_key rfl rfl rfl P1.at_) rfl ?_
            exact ⟨by rw [HR.out]; rfl, P1.below EB.out (by omega)⟩
        · rw [if_neg hd] at hf
          obtain ⟨xs, hx, hr⟩ := Option.map_eq_some_iff.mp hf
          have HR := Aside0.mk hr.symm
          have hpr := HPA.out rfl (fun e => hd (.inl e)) (fun e => hd (.inr e))
          rw [hx] at hpr
          obtain ⟨kk, pp, h1, h2, h3, h4⟩ := hpr.out
          have h2' : pp.drop 1 = xs := h2
          have HPP := Aside0.mk (And.intro h1 (And.intro h3 h4))
          have HXS := Aside0.mk h2'
          have b3 : (a0 == 1) = false := beq_eq_false_iff_ne.mpr (fun e => hd (.inl e))
          have b4 : (t == 0) = false := beq_eq_false_iff_ne.mpr (fun e => hd (.inr e))
          clear hf hd hx hr hpr h1 h2 h2' h3 h4
          go_wp2_with (first
            | ((with_reducible refine ldM rfl rfl E1.out 2 (kc l.f2) ?_ ?_ ?_ ?_); rfl; exact row26; rfl)
            | (go_at_call 148; refine (down_calls l.f2 HKO.out l.f1 t pp HPP.out.2.1 HPP.out.2.2 kk HPP.out.1 _).mono ?_; rw [HXS.out]; rintro e2 w2 ⟨rfl, hb2⟩; obtain ⟨K2, hK⟩ : ∃ K2, K2 = descK l.f2 xs := ⟨_, rfl⟩; have hko : KOK K2 := (by rw [hK]; exact descK_ok HKO.out _); rw [← hK]; have HK2 := Aside0.mk hK; have HB2 := Aside0.mk hb2; have HKO2 := Aside0.mk hko; clear hK hb2 hko)
            | (go_at_call 89; refine (rDerive_calls K2 33 0 HKO2.out (by omega) wok0 _).mono ?_; rintro e3 w3 ⟨rfl, hb3⟩; obtain ⟨K3, hK⟩ : ∃ K3, K3 = derK K2 33 0 := ⟨_, rfl⟩; rw [← hK]; have HK3 := Aside0.mk hK; have HB3 := Aside0.mk hb3; clear hK hb3)
            | ((with_reducible refine stR rfl rfl (blk_to (blk_to E3.out HB2.out) HB3.out) (kc K3) ?_ ?_ ?_ ?_ ?_ ?_); rfl; rfl; exact row26; rfl; rfl; intro W3 P1))
          refine bodyPost_ret (ret_key rfl rfl rfl P1.at_) rfl ?_
          have hb2 : Below w.heap.size w w2 := EB.out.trans (HB2.out.mono EB.out.size)
          exact ⟨by rw [HR.out, HK3.out, HK2.out]; rfl, P1.below (hb2.trans (HB3.out.mono hb2.size)) (by omega)⟩
    · have hi2 : i = ls.length := by have := HI.out; omega
      subst hi2
      have hf := HF.out
      rw [List.drop_length] at hf
      simp only [findF, Option.some.injEq] at hf
      have HR := Aside0.mk hf.symm
      clear hf HF
      go_wp2_with (first | ((with_reducible refine stR rfl rfl C3.out (kc z26) ?_ ?_ ?_ ?_ ?_ ?_); rfl; rfl; exact row26; rfl; rfl; intro W3 P1))
      refine bodyPost_ret (ret_key rfl rfl rfl P1.at_) rfl ?_
      exact ⟨by rw [HR.out]; rfl, P1.below CB.out (by omega)⟩
end Go.Proofs.Ytafhimeoijmolaa.K
namespace Go.Proofs.Ytafhimeoijmolaa.K
open Go.RowKit  Go.Proofs.YtafhimeoijmolaaW.PrintWords Go.Proofs.YtafhimeoijmolaaW.PrintLast Go.Proofs.YtafhimeoijmolaaW.PrintMore Go.Proofs.Ytafhimeoijmolaa.G
set_option linter.unusedVariables false
set_option linter.unusedSimpArgs false
attribute [local go_sem high] eqK eqK0
theorem findF_ok {a v t : Int} {K : S26} : ∀ {ls : List S83}, (∀ l ∈ ls, KOK l.f2) → findF a v t ls = some (K, true) → KOK K
  | [], _, h => by simp [findF] at h
  | l :: ls, hk, h => by
    simp only [findF] at h
    obtain ⟨b, hb, h⟩ := Option.bind_eq_some_iff.mp h
    cases b with
    | false => exact findF_ok (fun y hy => hk y (List.mem_cons_of_mem _ hy)) h
    | true =>
      simp only [if_true] at h
      split at h
      · have h1 := Option.some.inj h
        simp only [Prod.mk.injEq, and_true] at h1
        rw [← h1]; exact hk l (List.mem_cons_self ..)
      · obtain ⟨xs, _, h1⟩ := Option.map_eq_some_iff.mp h
        simp only [Prod.mk.injEq, and_true] at h1
        rw [← h1]; exact derK_ok _ _ _
set_option maxHeartbeats 4000000 in
set_option maxRecDepth 100000 in
theorem rOpen_v (a0 a1 a2 a3 a4 a5 rcv p q b : Int) (LA A P : Option Addr) (lc0 cap n cp np pq : Nat) (x0 chk : S26) (w : World) (h1 : headendref03_Valid.f a0 a1 a2 a3 a4 a5 = some false) :
    Calls Try.prog 51 #[.agg #[.int .u8 a0, .int .i64 a1, .int .i64 a2, .int .u64 a3, .int .u64 a4, .int .u64 a5], sv rcv LA lc0 cap p q, hv (.slice A n cp) b (.slice P np pq) x0 chk] w fun e' w' => e' = .returned (.tuple #[kv z26, .int .i64 30]) ∧ Below w.heap.size w w' := by
  obtain ⟨W0, hW0⟩ : ∃ W0, ((((w.alloc (.cells #[.int .u8 a0, .int .i64 a1, .int .i64 a2, .int .u64 a3, .int .u64 a4, .int .u64 a5] 45)).alloc (.cells (sc rcv LA lc0 cap p q) 76)).alloc (.cells (hc (.slice A n cp) b (.slice P np pq) x0 chk) 28)).alloc (.cells (kc z26) 26)) = W0 := ⟨_, rfl⟩
  have B0 := Aside0.mk (show W0.heap[w.heap.size]? = some (.cells #[.int .u8 a0, .int .i64 a1, .int .i64 a2, .int .u64 a3, .int .u64 a4, .int .u64 a5] 45 (0, 0)) by rw [← hW0]; exact (blk_alloc (blk_alloc (blk_alloc (newAt rfl) _) _) _))
  have B1 := Aside0.mk (show W0.heap[w.heap.size + 1]? = some (.cells (sc rcv LA lc0 cap p q) 76 (0, 0)) by rw [← hW0]; exact (blk_alloc (blk_alloc (newAt (by simp)) _) _))
  have B2 := Aside0.mk (show W0.heap[w.heap.size + 1 + 1]? = some (.cells (hc (.slice A n cp) b (.slice P np pq) x0 chk) 28 (0, 0)) by rw [← hW0]; exact (blk_alloc (newAt (by simp)) _))
  have B3 := Aside0.mk (show W0.heap[w.heap.size + 1 + 1 + 1]? = some (.cells (kc z26) 26 (0, 0)) by rw [← hW0]; exact (newAt (by simp)))
  have BB := Aside0.mk (show Below w.heap.size w W0 by rw [← hW0]; exact (((((Below.refl _ w).alloc (Nat.le_refl _) _).alloc (by simp) _).alloc (by simp; omega) _).alloc (by simp; omega) _))
  have BBs := Aside0.mk (show w.heap.size + 4 = W0.heap.size by rw [← hW0]; simp)
  have HW := Aside0.mk hW0
  clear hW0
  have H1 := Aside0.mk h1
  clear h1
  go_enter Try.func51, Try.ntmps51
  go_upto_region 1 with (fail)
  show Code.wp _ _ _ _ ((((w.alloc (.cells #[.int .u8 a0, .int .i64 a1, .int .i64 a2, .int .u64 a3, .int .u64 a4, .int .u64 a5] 45)).alloc (.cells (sc rcv LA lc0 cap p q) 76)).alloc (.cells (hc (.slice A n cp) b (.slice P np pq) x0 chk) 28)).alloc (.cells (kc z26) 26))
  rw [HW.out]
  go_wp2_with (first | ((with_reducible refine ldR rfl rfl B0.out ?_ ?_ ?_); rfl; exact row45))
  go_at_call 61
  refine (headendref03_Valid.calls a0 a1 a2 a3 a4 a5 false _ H1.out).mono ?_
  rintro e1 w1 ⟨rfl, hb1⟩
  have C3 := Aside0.mk (blk_to B3.out hb1)
  have CB := Aside0.mk (BB.out.trans (hb1.mono BB.out.size))
  have hcs : w.heap.size + 4 ≤ w1.heap.size := by have := hb1.size; have := BBs.out; omega
  clear hb1 B0 B1 B2 B3 BB BBs HW H1
  go_wp2_with (first | ((with_reducible refine stR rfl rfl C3.out (kc z26) ?_ ?_ ?_ ?_ ?_ ?_); rfl; rfl; exact row26; rfl; rfl; intro W2 P1))
  refine bodyPost_ret (ret_key rfl rfl rfl P1.at_) rfl ?_
  exact ⟨rfl, P1.below CB.out (by omega)⟩
set_option maxHeartbeats 4000000 in
set_option maxRecDepth 100000 in
theorem rOpen_bad (a0 a1 a2 a3 a4 a5 rcv p q b : Int) (LA A P : Option Addr) (lc0 cap cp np pq : Nat) (x0 chk : S26) (its : List S111) (w : World) (hC : Kd.C k111 w A its.length its) (hnp : np ≤ 9223372036854775807) (kk : Nat) (sub : S47 → Bool) (hsub : ∀ x ∈ its, headendref03_IsSubset.f kk a0 a1 a2 a3 a4 a5 x.f0.f0 x.f0.f1 = some (sub x.f0))
    (h1 : headendref03_Valid.f a0 a1 a2 a3 a4 a5 = some true) (h2 : hdrB sub its np b x0 = false) :
    Calls Try.prog 51 #[.agg #[.int .u8 a0, .int .i64 a1, .int .i64 a2, .int .u64 a3, .int .u64 a4, .int .u64 a5], sv rcv LA lc0 cap p q, hv (.slice A its.length cp) b (.slice P np pq) x0 chk] w fun e' w' => e' = .returned (.tuple #[kv z26, .int .i64 8]) ∧ Below w.heap.size w w' := by
  obtain ⟨W0, hW0⟩ : ∃ W0, ((((w.alloc (.cells #[.int .u8 a0, .int .i64 a1, .int .i64 a2, .int .u64 a3, .int .u64 a4, .int .u64 a5] 45)).alloc (.cells (sc rcv LA lc0 cap p q) 76)).alloc (.cells (hc (.slice A its.length cp) b (.slice P np pq) x0 chk) 28)).alloc (.cells (kc z26) 26)) = W0 := ⟨_, rfl⟩
  have B0 := Aside0.mk (show W0.heap[w.heap.size]? = some (.cells #[.int .u8 a0, .int .i64 a1, .int .i64 a2, .int .u64 a3, .int .u64 a4, .int .u64 a5] 45 (0, 0)) by rw [← hW0]; exact (blk_alloc (blk_alloc (blk_alloc (newAt rfl) _) _) _))
  have B1 := Aside0.mk (show W0.heap[w.heap.size + 1]? = some (.cells (sc rcv LA lc0 cap p q) 76 (0, 0)) by rw [← hW0]; exact (blk_alloc (blk_alloc (newAt (by simp)) _) _))
  have B2 := Aside0.mk (show W0.heap[w.heap.size + 1 + 1]? = some (.cells (hc (.slice A its.length cp) b (.slice P np pq) x0 chk) 28 (0, 0)) by rw [← hW0]; exact (blk_alloc (newAt (by simp)) _))
  have B3 := Aside0.mk (show W0.heap[w.heap.size + 1 + 1 + 1]? = some (.cells (kc z26) 26 (0, 0)) by rw [← hW0]; exact (newAt (by simp)))
  have BB := Aside0.mk (show Below w.heap.size w W0 by rw [← hW0]; exact (((((Below.refl _ w).alloc (Nat.le_refl _) _).alloc (by simp) _).alloc (by simp; omega) _).alloc (by simp; omega) _))
  have BBs := Aside0.mk (show w.heap.size + 4 = W0.heap.size by rw [← hW0]; simp)
  have HW := Aside0.mk hW0
  clear hW0
  have H1 := Aside0.mk h1; have H2 := Aside0.mk h2; have HC := Aside0.mk (Kd.C_below hC BB.out); have HS := Aside0.mk hsub
  clear h1 h2 hC hsub
  go_enter Try.func51, Try.ntmps51
  go_upto_region 1 with (fail)
  show Code.wp _ _ _ _ ((((w.alloc (.cells #[.int .u8 a0, .int .i64 a1, .int .i64 a2, .int .u64 a3, .int .u64 a4, .int .u64 a5] 45)).alloc (.cells (sc rcv LA lc0 cap p q) 76)).alloc (.cells (hc (.slice A its.length cp) b (.slice P np pq) x0 chk) 28)).alloc (.cells (kc z26) 26))
  rw [HW.out]
  go_wp2_with (first | ((with_reducible refine ldR rfl rfl B0.out ?_ ?_ ?_); rfl; exact row45))
  go_at_call 61
  refine (headendref03_Valid.calls a0 a1 a2 a3 a4 a5 true _ H1.out).mono ?_
  rintro e1 w1 ⟨rfl, hb1⟩
  have C0 := Aside0.mk (blk_to B0.out hb1); have C2 := Aside0.mk (blk_to B2.out hb1); have C3 := Aside0.mk (blk_to B3.out hb1)
  have CC := Aside0.mk (Kd.C_below HC.out hb1)
  have CB := Aside0.mk (BB.out.trans (hb1.mono BB.out.size))
  have hcs : w.heap.size + 4 ≤ w1.heap.size := by have := hb1.size; have := BBs.out; omega
  clear hb1 B0 B1 B2 B3 BB BBs HW H1 HC
  go_wp2_with (first | ((with_reducible refine ldR rfl rfl C0.out ?_ ?_ ?_); rfl; exact row45) | ((with_reducible refine ldR rfl rfl C2.out ?_ ?_ ?_); rfl; exact row28))
  go_at_call 109
  refine (rValidHeader_calls a0 a1 a2 a3 a4 a5 A P cp pq np b x0 chk its _ CC.out hnp kk sub HS.out).mono ?_
  rw [H2.out]
  rintro e2 w2 ⟨rfl, hb2⟩
  have D3 := Aside0.mk (blk_to C3.out hb2)
  have DB := Aside0.mk (CB.out.trans (hb2.mono CB.out.size))
  clear hb2 C0 C2 C3 CC CB
  go_wp2_with (first | ((with_reducible refine stR rfl rfl D3.out (kc z26) ?_ ?_ ?_ ?_ ?_ ?_); rfl; rfl; exact row26; rfl; rfl; intro W2 P1))
  refine bodyPost_ret (ret_key rfl rfl rfl P1.at_) rfl ?_
  exact ⟨rfl, P1.below DB.out (by omega)⟩
set_option maxHeartbeats 4000000 in
set_option maxRecDepth 100000 in
theorem rOpen_ok (a0 a1 a2 a3 a4 a5 rcv p q b : Int) (LA A P : Option Addr) (cap cp np pq : Nat) (x0 chk : S26) (ls : List S83) (its : List S111) (r : S26 × Int) (w : World) (hL : Kd.C k83 w LA ls.length ls) (hC : Kd.C k111 w A its.length its) (hnp : np ≤ 9223372036854775807) (kk : Nat) (sub : S47 → Bool) (hsub : ∀ x ∈ its, headendref03_IsSubset.f kk a0 a1 a2 a3 a4 a5 x.f0.f0 x.f0.f1 = some (sub x.f0))
    (h1 : headendref03_Valid.f a0 a1 a2 a3 a4 a5 = some true) (h2 : hdrB sub its np b x0 = true) (hlab : ∀ x ∈ its, LabOK a0 a1 a2 a3 a4 a5 x.f0.f0 x.f0.f1 ls) (hbox : ∀ x ∈ its, KOK x.f1) (hf : openF a0 ls chk its = some r) :
    Calls Try.prog 51 #[.agg #[.int .u8 a0, .int .i64 a1, .int .i64 a2, .int .u64 a3, .int .u64 a4, .int .u64 a5], sv rcv LA ls.length cap p q, hv (.slice A its.length cp) b (.slice P np pq) x0 chk] w fun e' w' => e' = .returned (.tuple #[kv r.1, .int .i64 r.2]) ∧ Below w.heap.size w w' := by
  obtain ⟨W0, hW0⟩ : ∃ W0, ((((w.alloc (.cells #[.int .u8 a0, .int .i64 a1, .int .i64 a2, .int .u64 a3, .int .u64 a4, .int .u64 a5] 45)).alloc (.cells (sc rcv LA ls.length cap p q) 76)).alloc (.cells (hc (.slice A its.length cp) b (.slice P np pq) x0 chk) 28)).alloc (.cells (kc z26) 26)) = W0 := ⟨_, rfl⟩
  have B0 := Aside0.mk (show W0.heap[w.heap.size]? = some (.cells #[.int .u8 a0, .int .i64 a1, .int .i64 a2, .int .u64 a3, .int .u64 a4, .int .u64 a5] 45 (0, 0)) by rw [← hW0]; exact (blk_alloc (blk_alloc (blk_alloc (newAt rfl) _) _) _))
  have B1 := Aside0.mk (show W0.heap[w.heap.size + 1]? = some (.cells (sc rcv LA ls.length cap p q) 76 (0, 0)) by rw [← hW0]; exact (blk_alloc (blk_alloc (newAt (by simp)) _) _))
  have B2 := Aside0.mk (show W0.heap[w.heap.size + 1 + 1]? = some (.cells (hc (.slice A its.length cp) b (.slice P np pq) x0 chk) 28 (0, 0)) by rw [← hW0]; exact (blk_alloc (newAt (by simp)) _))
  have B3 := Aside0.mk (show W0.heap[w.heap.size + 1 + 1 + 1]? = some (.cells (kc z26) 26 (0, 0)) by rw [← hW0]; exact (newAt (by simp)))
  have BB := Aside0.mk (show Below w.heap.size w W0 by rw [← hW0]; exact (((((Below.refl _ w).alloc (Nat.le_refl _) _).alloc (by simp) _).alloc (by simp; omega) _).alloc (by simp; omega) _))
  have BBs := Aside0.mk (show w.heap.size + 4 = W0.heap.size by rw [← hW0]; simp)
  have HW := Aside0.mk hW0
  clear hW0
  have H1 := Aside0.mk h1; have H2 := Aside0.mk h2; have HC := Aside0.mk (Kd.C_below hC BB.out); have HL := Aside0.mk (Kd.C_below hL BB.out); have HS := Aside0.mk hsub; have HLA := Aside0.mk hlab; have HBX := Aside0.mk hbox; have HF0 := Aside0.mk hf
  have hl1 : its.length ≤ 9223372036854775807 := hC.2.1
  clear h1 h2 hC hL hsub hlab hbox hf
  go_enter Try.func51, Try.ntmps51
  go_upto_region 1 with (fail)
  show Code.wp _ _ _ _ ((((w.alloc (.cells #[.int .u8 a0, .int .i64 a1, .int .i64 a2, .int .u64 a3, .int .u64 a4, .int .u64 a5] 45)).alloc (.cells (sc rcv LA ls.length cap p q) 76)).alloc (.cells (hc (.slice A its.length cp) b (.slice P np pq) x0 chk) 28)).alloc (.cells (kc z26) 26))
  rw [HW.out]
  go_wp2_with (first | ((with_reducible refine ldR rfl rfl B0.out ?_ ?_ ?_); rfl; exact row45))
  go_at_call 61
  refine (headendref03_Valid.calls a0 a1 a2 a3 a4 a5 true _ H1.out).mono ?_
  rintro e1 w1 ⟨rfl, hb1⟩
  have C0 := Aside0.mk (blk_to B0.out hb1); have C1 := Aside0.mk (blk_to B1.out hb1); have C2 := Aside0.mk (blk_to B2.out hb1); have C3 := Aside0.mk (blk_to B3.out hb1)
  have CC := Aside0.mk (Kd.C_below HC.out hb1); have CL := Aside0.mk (Kd.C_below HL.out hb1)
  have CB := Aside0.mk (BB.out.trans (hb1.mono BB.out.size))
  have hcs : w.heap.size + 4 ≤ w1.heap.size := by have := hb1.size; have := BBs.out; omega
  clear hb1 B0 B1 B2 B3 BB BBs HW H1 HC HL
  go_wp2_with (first | ((with_reducible refine ldR rfl rfl C0.out ?_ ?_ ?_); rfl; exact row45) | ((with_reducible refine ldR rfl rfl C2.out ?_ ?_ ?_); rfl; exact row28))
  go_at_call 109
  refine (rValidHeader_calls a0 a1 a2 a3 a4 a5 A P cp pq np b x0 chk its _ CC.out hnp kk sub HS.out).mono ?_
  rw [H2.out]
  rintro e2 w2 ⟨rfl, hb2⟩
  have D0 := Aside0.mk (blk_to C0.out hb2); have D1 := Aside0.mk (blk_to C1.out hb2); have D2 := Aside0.mk (blk_to C2.out hb2); have D3 := Aside0.mk (blk_to C3.out hb2)
  have DC := Aside0.mk (Kd.C_below CC.out hb2); have DL := Aside0.mk (Kd.C_below CL.out hb2)
  have DB := Aside0.mk (CB.out.trans (hb2.mono CB.out.size))
  have hds : w1.heap.size ≤ w2.heap.size := hb2.size
  clear hb2 C0 C1 C2 C3 CC CL CB H2 HS
  go_wp2_with fail
  go_loopg [8] its.length (fun kq v w' => ∃ i : Nat, v = .int .i64 (i : Int) ∧ Aside0 (i + kq = its.length) ∧ Aside0 (openF a0 ls chk (its.drop i) = some r) ∧ Aside0 (Below w2.heap.size w2 w'))
  case atStart => exact ⟨0, rfl, ⟨by omega⟩, ⟨HF0.out⟩, ⟨Below.refl _ _⟩⟩
  case round =>
    obtain ⟨i, rfl, HI, HF, HB⟩ := hrel
    have G0 := Aside0.mk (blk_to D0.out HB.out); have G1 := Aside0.mk (blk_to D1.out HB.out); have G2 := Aside0.mk (blk_to D2.out HB.out); have G3 := Aside0.mk (blk_to D3.out HB.out)
    have GB := Aside0.mk (DB.out.trans (HB.out.mono DB.out.size))
    have GC := Aside0.mk (Kd.C_below DC.out HB.out); have GL := Aside0.mk (Kd.C_below DL.out HB.out)
    have hgs : w2.heap.size ≤ wr.heap.size := HB.out.size
    have d0 := cat G2.out 0 (.slice A its.length cp) rfl
    clear HF0 D0 D1 D2 D3 DC DL DB
    by_cases hi : i < its.length
    · have HI' := Aside0.mk hi
      obtain ⟨x, hx⟩ : ∃ x, x = its.getD i z111 := ⟨_, rfl⟩
      have HX := Aside0.mk hx
      have hxm : x ∈ its := by rw [hx]; exact getD_in its i hi z111
      have HLX := Aside0.mk (HLA.out x hxm)
      have HBK := Aside0.mk (HBX.out x hxm)
      have hf := HF.out
      rw [drop_cons its i hi z111, ← hx] at hf
      simp only [openF] at hf
      obtain ⟨r1, hr1, hf⟩ := Option.bind_eq_some_iff.mp hf
      have HR1 := Aside0.mk hr1
      obtain ⟨K, ok⟩ := r1
      have HFX := Aside0.mk hf
      have HKK0 := Aside0.mk (fun h : ok = true => findF_ok HLX.out.key (h ▸ hr1))
      obtain ⟨ad, cc, rfl, -⟩ := Kd.C_get GC.out z111 (i : Int) (by omega) (by omega)
      have b2 : (i : Int) < (its.length : Int) := by omega
      have HCL := Aside0.mk (fun W (hC : Kd.C k83 W LA ls.length ls) => rLeads_calls a0 a1 a2 a3 a4 a5 rcv p q LA cap ls x.f0.f0 x.f0.f1 (K, ok) W hC HLX.out hr1)
      clear hx hi hf hr1 HF hxm HLX
      go_wp2_with fail
      refine beginB none 99 15 rfl (by repeat (first | exact nf_body | refine nf_then ?_ | refine nf_block ?_)) (fun NF S0 => ?_)
      refine takeR 0 29 rfl (by kernel_rfl) (by kernel_rfl) (by kernel_rfl) (by kernel_rfl) rfl rfl rfl G0.out (by simp) NF S0 rfl row45 ?_; (try simp only [Act.put, List.setIfInBounds_toArray, List.set_cons_zero, List.set_cons_succ])
      refine takeR 1 30 rfl (by kernel_rfl) (by kernel_rfl) (by kernel_rfl) (by kernel_rfl) rfl rfl rfl G1.out (by simp) NF S0 rfl row76 ?_; (try simp only [Act.put, List.setIfInBounds_toArray, List.set_cons_zero, List.set_cons_succ])
      refine takeY 2 31 (.pointer (some ⟨w.heap.size + 1 + 1, 0, none⟩)) rfl (by kernel_rfl) (by kernel_rfl) (by kernel_rfl) (by kernel_rfl) rfl rfl NF S0 (fun w' hw' => by go_simp) ?_; (try simp only [Act.put, List.setIfInBounds_toArray, List.set_cons_zero, List.set_cons_succ])
      refine takeY 3 32 (.slice (some ad) its.length cp) rfl (by kernel_rfl) (by kernel_rfl) (by kernel_rfl) (by kernel_rfl) rfl rfl NF S0 (fun w' hw' => by have c := cat (hw'.at_ G2.out (by simp)) 0 _ rfl; go_simp) ?_; (try simp only [Act.put, List.setIfInBounds_toArray, List.set_cons_zero, List.set_cons_succ])
      refine takeY 4 33 (.int .i64 i) rfl (by kernel_rfl) (by kernel_rfl) (by kernel_rfl) (by kernel_rfl) rfl rfl NF S0 (fun w' hw' => by go_simp) ?_; (try simp only [Act.put, List.setIfInBounds_toArray, List.set_cons_zero, List.set_cons_succ])
      refine takeY 5 34 (.pointer (some (ad.add (i * 18)))) rfl (by kernel_rfl) (by kernel_rfl) (by kernel_rfl) (by kernel_rfl) rfl rfl NF S0 (fun w' hw' => by go_simp) ?_; (try simp only [Act.put, List.setIfInBounds_toArray, List.set_cons_zero, List.set_cons_succ])
      refine takeY 6 35 (.pointer (some (ad.add (i * 18)))) rfl (by kernel_rfl) (by kernel_rfl) (by kernel_rfl) (by kernel_rfl) rfl rfl NF S0 (fun w' hw' => by go_simp) ?_; (try simp only [Act.put, List.setIfInBounds_toArray, List.set_cons_zero, List.set_cons_succ])
      refine takeCM 7 36 rfl (by kernel_rfl) (by kernel_rfl) (by kernel_rfl) (by kernel_rfl) rfl rfl rfl GC.out (by simp) (fun _ _ _ h => h) i z111 (lc x.f0.f0 x.f0.f1 x.f1).toList 18 0 [.int .i64 x.f0.f0, .int .i64 x.f0.f1] HI'.out (fun _ c h => by rw [← HX.out] at h; exact k111_lc c h) NF S0 rfl row47 rfl rfl ?_; (try simp only [Act.put, List.setIfInBounds_toArray, List.set_cons_zero, List.set_cons_succ])
      refine nextTwo 8 12 (by kernel_rfl) rfl rfl (fun K8 hK8 => ?ord1) (fun K12 hK12 => ?ord2)
      case' ord1 =>
        go_simp
        go_at_call 110
        refine (HCL.out _ (Kd.C_below GL.out ((Below.refl _ _).drew))).mono ?_
        rintro e3 w3 ⟨rfl, hb3⟩
        have S3 := S0.below hb3
        have HB3 := Aside0.mk (show Below wr.heap.size wr w3 from ((Below.refl _ _).drew).trans hb3)
        refine hK8.out _ _ (fun _ => S3) ?_
        (try simp only [Act.put, List.setIfInBounds_toArray, List.set_cons_zero, List.set_cons_succ])
        refine takeY 9 28 (.tuple #[kv K, .bool ok]) rfl (by kernel_rfl) (by kernel_rfl) (by kernel_rfl) (by kernel_rfl) rfl rfl NF S3 (fun w' hw' => by go_simp) ?_; (try simp only [Act.put, List.setIfInBounds_toArray, List.set_cons_zero, List.set_cons_succ])
        refine takeY 10 38 (kv K) rfl (by kernel_rfl) (by kernel_rfl) (by kernel_rfl) (by kernel_rfl) rfl rfl NF S3 (fun w' hw' => by go_simp) ?_; (try simp only [Act.put, List.setIfInBounds_toArray, List.set_cons_zero, List.set_cons_succ])
        refine takeY 11 39 (.bool ok) rfl (by kernel_rfl) (by kernel_rfl) (by kernel_rfl) (by kernel_rfl) rfl rfl NF S3 (fun w' hw' => by go_simp) ?_; (try simp only [Act.put, List.setIfInBounds_toArray, List.set_cons_zero, List.set_cons_succ])
        refine nextM 12 (by kernel_rfl) rfl (fun K12 hK12 => ?_)
        go_simp
        refine hK12.out _ _ (fun _ => S3.below ((Below.refl _ _).alloc (Nat.le_refl _) _)) ?_
        (try simp only [Act.put, List.setIfInBounds_toArray, List.set_cons_zero, List.set_cons_succ])
        refine nextM 13 (by kernel_rfl) rfl (fun K13 hK13 => ?_)
        rw [if_pos (by rfl)]
        refine wp_stR (ty := 26) rfl (newAt rfl) (kc K) rfl rfl row26 rfl rfl (fun wa P1 => ?_)
        have S4 := S3.below (show Below w3.heap.size w3 wa from P1.below ((Below.refl _ _).alloc (Nat.le_refl _) _) (Nat.le_refl _))
        refine hK13.out _ _ (fun _ => S4) ?_
        (try simp only [Act.put, List.setIfInBounds_toArray, List.set_cons_zero, List.set_cons_succ])
        refine nextM 14 (by kernel_rfl) rfl (fun K14 hK14 => ?_)
        go_simp
        refine hK14.out _ _ (fun _ => S4) ?_
        (try simp only [Act.put, List.setIfInBounds_toArray, List.set_cons_zero, List.set_cons_succ])
        refine doneM (by kernel_rfl) ?_ _
        obtain ⟨g, hg⟩ : ∃ g, g = w3.heap.size := ⟨_, rfl⟩
        rw [← hg]
        have WB := Aside0.mk (show Below wr.heap.size wr wa from P1.below (HB3.out.alloc HB3.out.size _) HB3.out.size)
        have KB := Aside0.mk (show wa.heap[g]? = some (.cells (kc K) 26 (0, 0)) by rw [hg]; exact P1.at_)
        have hgs2 : wr.heap.size ≤ g := by rw [hg]; exact HB3.out.size
        clear hg P1 S3 S4 HB3 S0 NF
      case' ord2 =>
        go_simp
        refine hK12.out _ _ (fun _ => S0.below ((Below.refl _ _).alloc (Nat.le_refl _) _)) ?_
        (try simp only [Act.put, List.setIfInBounds_toArray, List.set_cons_zero, List.set_cons_succ])
        refine nextM 8 (by kernel_rfl) rfl (fun K8 hK8 => ?_)
        go_simp
        go_at_call 110
        refine (HCL.out _ (Kd.C_below GL.out (show Below wr.heap.size wr _ from ((Below.refl _ wr).alloc (Nat.le_refl _) _).drew))).mono ?_
        rintro e3 w3 ⟨rfl, hb3⟩
        have C4 := Aside0.mk (blk_to (blk_drew (newAt rfl)) hb3)
        have HB3 := Aside0.mk (show Below wr.heap.size wr w3 from (((Below.refl _ wr).alloc (Nat.le_refl _) _).drew).trans (hb3.mono (by show wr.heap.size ≤ (wr.alloc _).heap.size; simp)))
        have S3 : SO wr none w3 := ⟨HB3.out.size, fun j hj _ => HB3.out.block j hj⟩
        refine hK8.out _ _ (fun _ => S3) ?_
        (try simp only [Act.put, List.setIfInBounds_toArray, List.set_cons_zero, List.set_cons_succ])
        refine takeY 9 28 (.tuple #[kv K, .bool ok]) rfl (by kernel_rfl) (by kernel_rfl) (by kernel_rfl) (by kernel_rfl) rfl rfl NF S3 (fun w' hw' => by go_simp) ?_; (try simp only [Act.put, List.setIfInBounds_toArray, List.set_cons_zero, List.set_cons_succ])
        refine takeY 10 38 (kv K) rfl (by kernel_rfl) (by kernel_rfl) (by kernel_rfl) (by kernel_rfl) rfl rfl NF S3 (fun w' hw' => by go_simp) ?_; (try simp only [Act.put, List.setIfInBounds_toArray, List.set_cons_zero, List.set_cons_succ])
        refine takeY 11 39 (.bool ok) rfl (by kernel_rfl) (by kernel_rfl) (by kernel_rfl) (by kernel_rfl) rfl rfl NF S3 (fun w' hw' => by go_simp) ?_; (try simp only [Act.put, List.setIfInBounds_toArray, List.set_cons_zero, List.set_cons_succ])
        refine nextM 13 (by kernel_rfl) rfl (fun K13 hK13 => ?_)
        rw [if_pos (by rfl)]
        refine wp_stR (ty := 26) rfl C4.out (kc K) rfl rfl row26 rfl rfl (fun wa P1 => ?_)
        have WB := Aside0.mk (show Below wr.heap.size wr wa from P1.below HB3.out (Nat.le_refl _))
        have S4 : SO wr none wa := ⟨WB.out.size, fun j hj _ => WB.out.block j hj⟩
        refine hK13.out _ _ (fun _ => S4) ?_
        (try simp only [Act.put, List.setIfInBounds_toArray, List.set_cons_zero, List.set_cons_succ])
        refine nextM 14 (by kernel_rfl) rfl (fun K14 hK14 => ?_)
        go_simp
        refine hK14.out _ _ (fun _ => S4) ?_
        (try simp only [Act.put, List.setIfInBounds_toArray, List.set_cons_zero, List.set_cons_succ])
        refine doneM (by kernel_rfl) ?_ _
        obtain ⟨g, hg⟩ : ∃ g, g = wr.heap.size := ⟨_, rfl⟩
        have hgs2 : wr.heap.size ≤ g := by rw [hg]; exact Nat.le_refl _
        have KB := Aside0.mk (show wa.heap[g]? = some (.cells (kc K) 26 (0, 0)) by rw [hg]; exact P1.at_)
        rw [← hg]
        clear hg P1 S3 S4 HB3 S0 NF C4
      all_goals
        have H2 := Aside0.mk (blk_to G2.out WB.out); have H3 := Aside0.mk (blk_to G3.out WB.out)
        have HCc := Aside0.mk (Kd.C_below GC.out WB.out)
        clear d0
        cases ok with
        | false =>
          have hf := HFX.out
          simp only [Bool.false_eq_true, if_false] at hf
          have HFN := Aside0.mk hf
          clear hf
          go_wp2
          obtain ⟨gq, rfl⟩ : ∃ gq, gk = gq + 1 := ⟨gk - 1, by have := HI'.out; have := HI.out; omega⟩
          go_roundg gq
          case measure => omega
          case rel => exact ⟨i + 1, by simp, ⟨by have := HI.out; omega⟩, ⟨HFN.out⟩, ⟨HB.out.trans (WB.out.mono HB.out.size)⟩⟩
        | true =>
          have hf := HFX.out
          simp only [if_true] at hf
          obtain ⟨S, hS⟩ : ∃ S, S = decK K x.f1 := ⟨_, rfl⟩
          rw [← hS] at hf
          have HS := Aside0.mk hS
          have HKS := Aside0.mk (show KOK S by rw [hS]; exact decK_ok _ _)
          obtain ⟨T, hT⟩ : ∃ T, T = derK S 53 0 := ⟨_, rfl⟩
          rw [← hT] at hf
          have HT := Aside0.mk hT
          have HFN := Aside0.mk hf
          have HKK := Aside0.mk (HKK0.out rfl)
          clear hf hS hT
          go_wp2_with fail
          refine beginB none 99 10 rfl (by repeat (first | exact nf_body | refine nf_then ?_ | refine nf_block ?_)) (fun NF S0 => ?_)
          refine takeR 0 42 rfl (by kernel_rfl) (by kernel_rfl) (by kernel_rfl) (by kernel_rfl) rfl rfl rfl KB.out (by simp) NF S0 rfl row26 ?_; (try simp only [Act.put, List.setIfInBounds_toArray, List.set_cons_zero, List.set_cons_succ])
          refine takeY 1 43 (.pointer (some ⟨w.heap.size + 1 + 1, 0, none⟩)) rfl (by kernel_rfl) (by kernel_rfl) (by kernel_rfl) (by kernel_rfl) rfl rfl NF S0 (fun w' hw' => by go_simp) ?_; (try simp only [Act.put, List.setIfInBounds_toArray, List.set_cons_zero, List.set_cons_succ])
          refine takeY 2 44 (.slice (some ad) its.length cp) rfl (by kernel_rfl) (by kernel_rfl) (by kernel_rfl) (by kernel_rfl) rfl rfl NF S0 (fun w' hw' => by have c := cat (hw'.at_ H2.out (by simp)) 0 _ rfl; go_simp) ?_; (try simp only [Act.put, List.setIfInBounds_toArray, List.set_cons_zero, List.set_cons_succ])
          refine takeY 3 45 (.int .i64 i) rfl (by kernel_rfl) (by kernel_rfl) (by kernel_rfl) (by kernel_rfl) rfl rfl NF S0 (fun w' hw' => by go_simp) ?_; (try simp only [Act.put, List.setIfInBounds_toArray, List.set_cons_zero, List.set_cons_succ])
          refine takeY 4 46 (.pointer (some (ad.add (i * 18)))) rfl (by kernel_rfl) (by kernel_rfl) (by kernel_rfl) (by kernel_rfl) rfl rfl NF S0 (fun w' hw' => by go_simp) ?_; (try simp only [Act.put, List.setIfInBounds_toArray, List.set_cons_zero, List.set_cons_succ])
          refine takeY 5 47 (.pointer (some ⟨(ad.add (i * 18)).block, (ad.add (i * 18)).off + 2, none⟩)) rfl (by kernel_rfl) (by kernel_rfl) (by kernel_rfl) (by kernel_rfl) rfl rfl NF S0 (fun w' hw' => by go_simp) ?_; (try simp only [Act.put, List.setIfInBounds_toArray, List.set_cons_zero, List.set_cons_succ])
          refine takeCM 6 48 rfl (by kernel_rfl) (by kernel_rfl) (by kernel_rfl) (by kernel_rfl) rfl rfl rfl HCc.out (by simp) (fun _ _ _ h => h) i z111 (lc x.f0.f0 x.f0.f1 x.f1).toList 18 2 (kc x.f1).toList HI'.out (fun _ c h => by rw [← HX.out] at h; exact k111_lc c h) NF S0 rfl row26 rfl rfl ?_; (try simp only [Act.put, List.setIfInBounds_toArray, List.set_cons_zero, List.set_cons_succ])
          refine nextTwo 7 8 (by kernel_rfl) rfl rfl (fun K7 hK7 => ?_) (fun K8 hK8 => ?_)
          case' _ =>
            go_simp
            go_at_call 111
            refine (rDecrypt_calls K x.f1 HKK.out HBK.out _).mono ?_
            rw [← HS.out]
            rintro e4 w4 ⟨rfl, hb4⟩
            have S3 := S0.below hb4
            have HB3 := Aside0.mk (show Below wa.heap.size wa w4 from ((Below.refl _ _).drew).trans hb4)
            refine hK7.out _ _ (fun _ => S3) ?_
            (try simp only [Act.put, List.setIfInBounds_toArray, List.set_cons_zero, List.set_cons_succ])
            refine nextM 8 (by kernel_rfl) rfl (fun K8 hK8 => ?_)
            go_simp
            refine hK8.out _ _ (fun _ => S3.below ((Below.refl _ _).alloc (Nat.le_refl _) _)) ?_
            (try simp only [Act.put, List.setIfInBounds_toArray, List.set_cons_zero, List.set_cons_succ])
            refine nextM 9 (by kernel_rfl) rfl (fun K9 hK9 => ?_)
            rw [if_pos (by rfl)]
            refine wp_stR (ty := 26) rfl (newAt rfl) (kc S) rfl rfl row26 rfl rfl (fun wb P1 => ?_)
            refine hK9.out _ _ (fun _ => S3.below (show Below w4.heap.size w4 wb from P1.below ((Below.refl _ _).alloc (Nat.le_refl _) _) (Nat.le_refl _))) ?_
            (try simp only [Act.put, List.setIfInBounds_toArray, List.set_cons_zero, List.set_cons_succ])
            refine doneM (by kernel_rfl) ?_ _
            obtain ⟨g2, hg⟩ : ∃ g2, g2 = w4.heap.size := ⟨_, rfl⟩
            rw [← hg]
            have VB := Aside0.mk (show Below wa.heap.size wa wb from P1.below (HB3.out.alloc HB3.out.size _) HB3.out.size)
            have SB := Aside0.mk (show wb.heap[g2]? = some (.cells (kc S) 26 (0, 0)) by rw [hg]; exact P1.at_)
            clear hg P1 S3 HB3 S0 NF
          rotate_left 1
          case' _ =>
            go_simp
            refine hK8.out _ _ (fun _ => S0.below ((Below.refl _ _).alloc (Nat.le_refl _) _)) ?_
            (try simp only [Act.put, List.setIfInBounds_toArray, List.set_cons_zero, List.set_cons_succ])
            refine nextM 7 (by kernel_rfl) rfl (fun K7 hK7 => ?_)
            go_simp
            go_at_call 111
            refine (rDecrypt_calls K x.f1 HKK.out HBK.out _).mono ?_
            rw [← HS.out]
            rintro e4 w4 ⟨rfl, hb4⟩
            have C4 := Aside0.mk (blk_to (blk_drew (newAt rfl)) hb4)
            have HB3 := Aside0.mk (show Below wa.heap.size wa w4 from (((Below.refl _ wa).alloc (Nat.le_refl _) _).drew).trans (hb4.mono (by show wa.heap.size ≤ (wa.alloc _).heap.size; simp)))
            have S3 : SO wa none w4 := ⟨HB3.out.size, fun j hj _ => HB3.out.block j hj⟩
            refine hK7.out _ _ (fun _ => S3) ?_
            (try simp only [Act.put, List.setIfInBounds_toArray, List.set_cons_zero, List.set_cons_succ])
            refine nextM 9 (by kernel_rfl) rfl (fun K9 hK9 => ?_)
            rw [if_pos (by rfl)]
            refine wp_stR (ty := 26) rfl C4.out (kc S) rfl rfl row26 rfl rfl (fun wb P1 => ?_)
            have VB := Aside0.mk (show Below wa.heap.size wa wb from P1.below HB3.out (Nat.le_refl _))
            refine hK9.out _ _ (fun _ => ⟨VB.out.size, fun j hj _ => VB.out.block j hj⟩) ?_
            (try simp only [Act.put, List.setIfInBounds_toArray, List.set_cons_zero, List.set_cons_succ])
            refine doneM (by kernel_rfl) ?_ _
            obtain ⟨g2, hg⟩ : ∃ g2, g2 = wa.heap.size := ⟨_, rfl⟩
            have SB := Aside0.mk (show wb.heap[g2]? = some (.cells (kc S) 26 (0, 0)) by rw [hg]; exact P1.at_)
            rw [← hg]
            clear hg P1 S3 HB3 S0 NF C4
          all_goals
            have I2 := Aside0.mk (blk_to H2.out VB.out); have I3 := Aside0.mk (blk_to H3.out VB.out)
            have UB := Aside0.mk (show Below wr.heap.size wr wb from WB.out.trans (VB.out.mono WB.out.size))
            go_wp2_with fail
            refine beginB none 99 5 rfl (by repeat (first | exact nf_body | refine nf_then ?_ | refine nf_block ?_)) (fun NF S0 => ?_)
            refine takeR 0 50 rfl (by kernel_rfl) (by kernel_rfl) (by kernel_rfl) (by kernel_rfl) rfl rfl rfl SB.out (by simp) NF S0 rfl row26 ?_; (try simp only [Act.put, List.setIfInBounds_toArray, List.set_cons_zero, List.set_cons_succ])
            refine takeY 2 52 (.pointer (some ⟨w.heap.size + 1 + 1, 19, none⟩)) rfl (by kernel_rfl) (by kernel_rfl) (by kernel_rfl) (by kernel_rfl) rfl rfl NF S0 (fun w' hw' => by go_simp) ?_; (try simp only [Act.put, List.setIfInBounds_toArray, List.set_cons_zero, List.set_cons_succ])
            refine takeM 3 53 rfl (by kernel_rfl) (by kernel_rfl) (by kernel_rfl) (by kernel_rfl) rfl rfl rfl I2.out (by simp) 19 (kc chk) NF S0 rfl row26 rfl ?_; (try simp only [Act.put, List.setIfInBounds_toArray, List.set_cons_zero, List.set_cons_succ])
            refine nextM 1 (by kernel_rfl) rfl (fun K1 hK1 => ?_)
            go_simp
            go_at_call 89
            refine (rDerive_calls S 53 0 HKS.out (by omega) wok0 _).mono ?_
            rw [← HT.out]
            rintro e5 w5 ⟨rfl, hb5⟩
            have S5 := S0.below hb5
            refine hK1.out _ _ (fun _ => S5) ?_
            (try simp only [Act.put, List.setIfInBounds_toArray, List.set_cons_zero, List.set_cons_succ])
            refine nextM 4 (by kernel_rfl) rfl (fun K4 hK4 => ?_)
            go_simp
            refine hK4.out _ _ (fun _ => S5) ?_
            (try simp only [Act.put, List.setIfInBounds_toArray, List.set_cons_zero, List.set_cons_succ])
            refine doneM (by kernel_rfl) ?_ _
            have N3 := Aside0.mk (blk_to (blk_drew I3.out) hb5)
            have NS := Aside0.mk (blk_to (blk_drew SB.out) hb5)
            have NW := Aside0.mk (show Below wr.heap.size wr w5 from (UB.out.drew).trans (hb5.mono UB.out.size))
            clear S0 S5 NF hb5
            cases hq : keq T chk with
            | true =>
              have hf := HFN.out
              rw [hq] at hf
              simp only [if_true, Option.some.injEq] at hf
              have ER := Aside0.mk hf.symm
              clear hf
              go_wp2_with (first | ((with_reducible refine ldR rfl rfl NS.out ?_ ?_ ?_); rfl; exact row26) | ((with_reducible refine stR rfl rfl N3.out (kc S) ?_ ?_ ?_ ?_ ?_ ?_); rfl; rfl; exact row26; rfl; rfl; intro W6 P4))
              refine bodyPost_ret (ret_key rfl rfl rfl P4.at_) rfl ?_
              exact ⟨by rw [ER.out]; rfl, P4.below (GB.out.trans (NW.out.mono GB.out.size)) (by omega)⟩
            | false =>
              have hf := HFN.out
              rw [hq] at hf
              simp only [Bool.false_eq_true, if_false] at hf
              have HFM := Aside0.mk hf
              clear hf
              go_wp2
              obtain ⟨gq, rfl⟩ : ∃ gq, gk = gq + 1 := ⟨gk - 1, by have := HI'.out; have := HI.out; omega⟩
              go_roundg gq
              case measure => omega
              case rel => exact ⟨i + 1, by simp, ⟨by have := HI.out; omega⟩, ⟨HFM.out⟩, ⟨HB.out.trans (NW.out.mono HB.out.size)⟩⟩
    · have hi2 : i = its.length := by have := HI.out; omega
      subst hi2
      have hf := HF.out
      rw [List.drop_length] at hf
      simp only [openF, Option.some.injEq] at hf
      have ER := Aside0.mk hf.symm
      have b2 : ¬ ((its.length : Int) < (its.length : Int)) := by omega
      clear hf HF
      go_wp2_with (first | ((with_reducible refine stR rfl rfl G3.out (kc z26) ?_ ?_ ?_ ?_ ?_ ?_); rfl; rfl; exact row26; rfl; rfl; intro W6 P4))
      refine bodyPost_ret (ret_key rfl rfl rfl P4.at_) rfl ?_
      exact ⟨by rw [ER.out]; rfl, P4.below GB.out (by omega)⟩
end Go.Proofs.Ytafhimeoijmolaa.K
