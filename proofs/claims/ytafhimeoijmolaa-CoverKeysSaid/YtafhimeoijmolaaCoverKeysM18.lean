/- Texts of this claim, one behind the other, as far as they are used: M14, M12, N6, KP. -/
import Derived.Test.YtafhimeoijmolaaCoverKeysM3
import Derived.Test.YtafhimeoijmolaaCoverKeysM4
import Derived.Test.YtafhimeoijmolaaCoverKeysM6
import Derived.Test.YtafhimeoijmolaaCoverKeysM7
import Derived.Test.YtafhimeoijmolaaCoverKeysM13
import Derived.Test.YtafhimeoijmolaaCoverKeysM14
import Derived.Test.YtafhimeoijmolaaCoverKeysM16
import Derived.Test.YtafhimeoijmolaaCoverKeysM17
namespace Go.Proofs.Ytafhimeoijmolaa.K
open Go.RowKit  Go.Proofs.YtafhimeoijmolaaW.PrintWords Go.Proofs.YtafhimeoijmolaaW.PrintLast Go.Proofs.YtafhimeoijmolaaW.PrintMore Go.Proofs.Ytafhimeoijmolaa.G
set_option linter.unusedVariables false
set_option linter.unusedSimpArgs false
theorem wp_ldC {o : Oper} {a : Act} {w : World} {K : Act → World → Prop} {Q : Exit → Act → World → Prop} {α : Type} {d : Kd α} {ty : TypeId} {x : Operand} (hop : o.op = .load ty x) {ad : Addr} {m : Nat} {xs : List α} (hC : Kd.C d w (some ad) m xs) (i : Nat) (z : α) (cs : List Value) (sz : Nat) (hx : a.eval x = .pointer (some (ad.add (i * sz)))) (hi : i < m) (hk : ∀ c, d.K w (xs.getD i z) c → c = cs) (hT : RowTy ty sz) (hsz : d.sz = sz)
    (h : K (a.put o.dst (.agg cs.toArray)) w) : o.wp Try.prog a w K Q := by
  unfold Oper.wp execOp
  simp only [hop, hx, Instr.loadAt, Instr.sureAddr, Sem.run_bind, Sem.run_pure, Result.andThen_ok, runLdC hC i hi z cs hk hT hsz]
  exact h
def rWorkR (vb rb sb hb tr : Bool) (n : Int) : Int × Int := if vb = true then (if rb = true then (if sb = true then (if hb = true then (if tr = true then (0, 0) else (n, 0)) else (0, 6)) else (0, 31)) else (0, 2)) else (0, 30)
structure Lw (W : World) (l : List S47) (b2 b9 : Bool) (g : Nat) (A : Option Addr) (c : Nat) (w : World) : Prop where
  below : Below W.heap.size W w
  l : b2 = true → Kd.R k47 47 w W.heap.size (fun _ => True) (.slice A l.length c) l
  o : b9 = true → W.heap.size ≤ g ∧ w.heap[g]? = some (.cells #[.int .i64 0, .int .i64 0] 47 (0, 0))
section
variable {W w w' : World} {l : List S47} {b2 b9 : Bool} {g : Nat} {A : Option Addr} {c : Nat}
theorem Lw.on (T : Lw W l b2 b9 g A c w) (hb : Below w.heap.size w w') : Lw W l b2 b9 g A c w' :=
  ⟨T.below.trans (hb.mono T.below.size), fun e => Kd.R_below (T.l e) hb, fun e => ⟨(T.o e).1, blk_to (T.o e).2 hb⟩⟩
theorem Lw.call2 {A' : Option Addr} {c' : Nat} (T : Lw W l b2 b9 g A c w) (hb : Below w.heap.size w w') (hr : Kd.R k47 47 w' w.heap.size (fun _ => True) (.slice A' l.length c') l) : Lw W l true b9 g A' c' w' :=
  let T2 := T.on hb
  ⟨T2.below, fun _ => Kd.R_lower hr T.below.size, T2.o⟩
theorem Lw.box9 (T : Lw W l b2 b9 g A c w) : Lw W l b2 true w.heap.size A c (w.alloc (.cells #[.int .i64 0, .int .i64 0] 47)) :=
  let T2 := T.on ((Below.refl w.heap.size w).alloc (Nat.le_refl _) _)
  ⟨T2.below, T2.l, fun _ => ⟨T.below.size, newAt rfl⟩⟩
theorem Lw.so (T : Lw W l b2 b9 g A c w) : SO W none w := ⟨T.below.size, fun j hj _ => T.below.block j hj⟩
theorem Lw.opq (T : Lw W l b2 b9 g A c w) {C : World → Prop} (h : ∀ w, Lw W l b2 b9 g A c w → C w) : C w := h w T
end
set_option maxHeartbeats 4000000 in
set_option maxRecDepth 100000 in
theorem rWork_calls (a0 a1 a2 a3 a4 a5 u v t : Int) (vb rb sb hb tr : Bool) (kk : Nat) (l : List S47) (i : Nat) (p : List Int) (w : World) (h1 : headendref03_Valid.f a0 a1 a2 a3 a4 a5 = some vb) (h2 : vb = true → headendref03_receiver.f kk a1 u = some rb) (h3 : vb = true → rb = true → headendref03_IsSubset.f kk a0 a1 a2 a3 a4 a5 v t = some sb)
    (h4 : vb = true → rb = true → sb = true → headendref03_Has.f kk a0 a1 a2 a3 a4 a5 v t u = some hb) (htr : tr = decide (a0 = 1 ∨ t = 0))
    (h5 : vb = true → rb = true → sb = true → hb = true → tr = false → headendref03_LabelsOf.f kk a0 a1 a2 a3 a4 a5 u = some l ∧ headendref03_Known.f kk a0 a1 a2 a3 a4 a5 u v t = some (i : Int) ∧ i < l.length ∧ headendref03_Path.f kk (l.getD i z47).f1 t = some p) :
    Calls Try.prog 56 #[.agg #[.int .u8 a0, .int .i64 a1, .int .i64 a2, .int .u64 a3, .int .u64 a4, .int .u64 a5], .int .i64 u, .agg #[.int .i64 v, .int .i64 t]] w fun e' w' => e' = .returned (.tuple #[.int .i64 (rWorkR vb rb sb hb tr p.length).1, .int .i64 (rWorkR vb rb sb hb tr p.length).2]) ∧ Below w.heap.size w w' := by
  obtain ⟨W0, hW0⟩ : ∃ W0, ((w.alloc (.cells #[.int .u8 a0, .int .i64 a1, .int .i64 a2, .int .u64 a3, .int .u64 a4, .int .u64 a5] 45)).alloc (.cells #[.int .i64 v, .int .i64 t] 47)) = W0 := ⟨_, rfl⟩
  have B0 := Aside0.mk (show W0.heap[w.heap.size]? = some (.cells #[.int .u8 a0, .int .i64 a1, .int .i64 a2, .int .u64 a3, .int .u64 a4, .int .u64 a5] 45 (0, 0)) by rw [← hW0]; exact (blk_alloc (newAt rfl) _))
  have B1 := Aside0.mk (show W0.heap[w.heap.size + 1]? = some (.cells #[.int .i64 v, .int .i64 t] 47 (0, 0)) by rw [← hW0]; exact (newAt (by simp)))
  have BB := Aside0.mk (show Below w.heap.size w W0 by rw [← hW0]; exact (((Below.refl _ w).alloc (Nat.le_refl _) _).alloc (by simp) _))
  have BBs := Aside0.mk (show w.heap.size + 2 = W0.heap.size by rw [← hW0]; simp)
  have HW := Aside0.mk hW0
  clear hW0
  have H1 := Aside0.mk h1; have H2 := Aside0.mk h2; have H3 := Aside0.mk h3; have H4 := Aside0.mk h4; have H5 := Aside0.mk h5; have HTR := Aside0.mk htr
  obtain ⟨R, hR⟩ : ∃ R, R = rWorkR vb rb sb hb tr p.length := ⟨_, rfl⟩
  rw [← hR]
  have HR := Aside0.mk hR
  clear h1 h2 h3 h4 h5 hR htr
  go_enter Try.func56, Try.ntmps56
  go_upto_region 1 with (fail)
  show Code.wp _ _ _ _ ((w.alloc (.cells #[.int .u8 a0, .int .i64 a1, .int .i64 a2, .int .u64 a3, .int .u64 a4, .int .u64 a5] 45)).alloc (.cells #[.int .i64 v, .int .i64 t] 47))
  rw [HW.out]
  go_wp2_with (first | ((with_reducible refine ldR rfl rfl B0.out ?_ ?_ ?_); rfl; exact row45))
  go_at_call 61
  refine (headendref03_Valid.calls a0 a1 a2 a3 a4 a5 vb _ H1.out).mono ?_
  rintro e1 w1 ⟨rfl, hb1⟩
  have C0 := Aside0.mk (blk_to B0.out hb1); have C1 := Aside0.mk (blk_to B1.out hb1)
  have CB := Aside0.mk (BB.out.trans (hb1.mono BB.out.size))
  have hcs : w.heap.size + 2 ≤ w1.heap.size := by have := hb1.size; have := BBs.out; omega
  clear hb1 B0 B1 BB BBs HW H1
  cases vb with
  | false =>
    have E1 := Aside0.mk (show R = (0, 30) from HR.out)
    go_wp2_with fail
    refine bodyPost_ret (ret_two rfl rfl rfl) rfl ?_
    exact ⟨by rw [E1.out]; rfl, CB.out⟩
  | true =>
  have K2 := Aside0.mk (H2.out rfl); have K3 := Aside0.mk (H3.out rfl); have K4 := Aside0.mk (H4.out rfl); have K5 := Aside0.mk (H5.out rfl)
  clear H2 H3 H4 H5
  have c1 := cat C0.out 1 (.int .i64 a1) rfl
  go_wp2_with fail
  go_at_call 95
  refine (headendref03_receiver.calls kk a1 u rb _ K2.out).mono ?_
  rintro e2 w2 ⟨rfl, ⟨⟨nd, rfl⟩⟩⟩
  obtain ⟨w2, hw2⟩ : ∃ w2, w1.drewN nd = w2 := ⟨_, rfl⟩
  rw [hw2]
  have D0 := Aside0.mk (show w2.heap[w.heap.size]? = some (.cells #[.int .u8 a0, .int .i64 a1, .int .i64 a2, .int .u64 a3, .int .u64 a4, .int .u64 a5] 45 (0, 0)) by rw [← hw2]; exact C0.out)
  have D1 := Aside0.mk (show w2.heap[w.heap.size + 1]? = some (.cells #[.int .i64 v, .int .i64 t] 47 (0, 0)) by rw [← hw2]; exact C1.out)
  have DB := Aside0.mk (show Below w.heap.size w w2 by rw [← hw2]; exact pw_below_drewN CB.out nd)
  have hds : w.heap.size + 2 ≤ w2.heap.size := by rw [← hw2]; exact hcs
  clear hw2 c1 C0 C1 CB K2
  cases rb with
  | false =>
    have E1 := Aside0.mk (show R = (0, 2) from HR.out)
    go_wp2_with fail
    refine bodyPost_ret (ret_two rfl rfl rfl) rfl ?_
    exact ⟨by rw [E1.out]; rfl, DB.out⟩
  | true =>
  have L3 := Aside0.mk (K3.out rfl); have L4 := Aside0.mk (K4.out rfl); have L5 := Aside0.mk (K5.out rfl)
  clear K3 K4 K5
  go_wp2_with (first | ((with_reducible refine ldR rfl rfl D0.out ?_ ?_ ?_); rfl; exact row45) | ((with_reducible refine ldR rfl rfl D1.out ?_ ?_ ?_); rfl; exact row47))
  go_at_call 64
  refine (headendref03_IsSubset.calls kk a0 a1 a2 a3 a4 a5 v t sb _ L3.out).mono ?_
  rintro e3 w3 ⟨rfl, hb3⟩
  have E0 := Aside0.mk (blk_to D0.out hb3); have E1 := Aside0.mk (blk_to D1.out hb3)
  have EB := Aside0.mk (DB.out.trans (hb3.mono DB.out.size))
  have hes : w2.heap.size ≤ w3.heap.size := hb3.size
  clear hb3 D0 D1 DB L3
  cases sb with
  | false =>
    have F1 := Aside0.mk (show R = (0, 31) from HR.out)
    go_wp2_with fail
    refine bodyPost_ret (ret_two rfl rfl rfl) rfl ?_
    exact ⟨by rw [F1.out]; rfl, EB.out⟩
  | true =>
  have M4 := Aside0.mk (L4.out rfl); have M5 := Aside0.mk (L5.out rfl)
  clear L4 L5
  go_wp2_with (first | ((with_reducible refine ldR rfl rfl E0.out ?_ ?_ ?_); rfl; exact row45) | ((with_reducible refine ldR rfl rfl E1.out ?_ ?_ ?_); rfl; exact row47))
  go_at_call 112
  refine (headendref03_Has.calls kk a0 a1 a2 a3 a4 a5 v t u hb _ M4.out).mono ?_
  rintro e4 w4 ⟨rfl, hb4⟩
  have G0 := Aside0.mk (blk_to E0.out hb4); have G1 := Aside0.mk (blk_to E1.out hb4)
  have GB := Aside0.mk (EB.out.trans (hb4.mono EB.out.size))
  have hgs : w3.heap.size ≤ w4.heap.size := hb4.size
  clear hb4 E0 E1 EB M4
  cases hb with
  | false =>
    have F1 := Aside0.mk (show R = (0, 6) from HR.out)
    go_wp2_with fail
    refine bodyPost_ret (ret_two rfl rfl rfl) rfl ?_
    exact ⟨by rw [F1.out]; rfl, GB.out⟩
  | true =>
  have N5 := Aside0.mk (M5.out rfl)
  have F0 := Aside0.mk (show R = (if tr = true then (0, 0) else ((p.length : Int), 0)) from HR.out)
  clear M5 HR
  have c0 := cat G0.out 0 (.int .u8 a0) rfl; have c1 := cat G1.out 1 (.int .i64 t) rfl
  by_cases h6 : a0 = 1
  · have b6 : (a0 == 1) = true := by simp [h6]
    have F1 := Aside0.mk (show R = (0, 0) by rw [F0.out, HTR.out, if_pos (by simp [h6])])
    clear h6
    go_wp2_with fail
    refine bodyPost_ret (ret_two rfl rfl rfl) rfl ?_
    exact ⟨by rw [F1.out]; rfl, GB.out⟩
  have b6 : (a0 == 1) = false := by simp [h6]
  by_cases h7 : t = 0
  · have b7 : (t == 0) = true := by simp [h7]
    have F1 := Aside0.mk (show R = (0, 0) by rw [F0.out, HTR.out, if_pos (by simp [h7])])
    clear h6 h7
    go_wp2_with fail
    refine bodyPost_ret (ret_two rfl rfl rfl) rfl ?_
    exact ⟨by rw [F1.out]; rfl, GB.out⟩
  have b7 : (t == 0) = false := by simp [h7]
  have htf : tr = false := by rw [HTR.out]; simp [h6, h7]
  have F1 := Aside0.mk (show R = ((p.length : Int), 0) by rw [F0.out, htf]; rfl)
  obtain ⟨q1, q2, q3, q4⟩ := N5.out htf
  have Q1 := Aside0.mk q1; have Q2 := Aside0.mk q2; have Q3 := Aside0.mk q3; have Q4 := Aside0.mk q4
  clear h6 h7 htf q1 q2 q3 q4 N5 F0
  go_upto_region 11 with (fail)
  clear c0 c1
  obtain ⟨y, hy⟩ : ∃ y, y = l.getD i z47 := ⟨_, rfl⟩
  rw [← hy] at Q4
  have HY := Aside0.mk hy
  clear hy
  obtain ⟨Qf, hQf⟩ : ∃ Qf : Act → Act → World → Prop, ∀ a a' w', Qf a a' w' ↔ (∃ (g : Nat) (A : Option Addr) (c : Nat) (ad : Addr), a' = ((((((((((a.put (some 34) (.agg #[.int .u8 a0, .int .i64 a1, .int .i64 a2, .int .u64 a3, .int .u64 a4, .int .u64 a5])).put (some 35) (.int .i64 u)).put (some 37) (.agg #[.int .u8 a0, .int .i64 a1, .int .i64 a2, .int .u64 a3, .int .u64 a4, .int .u64 a5])).put (some 38) (.int .i64 u)).put (some 39) (.agg #[.int .i64 v, .int .i64 t])).put (some 36) (.slice A l.length c)).put (some 40) (.int .i64 i)).put (some 41) (.pointer (some (ad.add (i * 2))))).put (some 42) (.agg #[.int .i64 y.f0, .int .i64 y.f1])).put (some 8) (.pointer (some ⟨g, 0, none⟩))) ∧ Below w4.heap.size w4 w' ∧ w'.heap[g]? = some (.cells #[.int .i64 y.f0, .int .i64 y.f1] 47 (0, 0))) := ⟨_, fun _ _ _ => Iff.rfl⟩
  refine region_join Qf ?_ ?_
  · refine beginB none 99 11 rfl nf_join (fun NF S => ?_)
    refine takeR 0 34 rfl (by kernel_rfl) (by kernel_rfl) (by kernel_rfl) (by kernel_rfl) rfl rfl rfl G0.out (by simp) NF S rfl row45 ?_; (try simp only [Act.put, List.setIfInBounds_toArray, List.set_cons_zero, List.set_cons_succ])
    refine takeY 1 35 (.int .i64 u) rfl (by kernel_rfl) (by kernel_rfl) (by kernel_rfl) (by kernel_rfl) rfl rfl NF S (fun w' hw' => by go_simp) ?_; (try simp only [Act.put, List.setIfInBounds_toArray, List.set_cons_zero, List.set_cons_succ])
    refine takeR 3 37 rfl (by kernel_rfl) (by kernel_rfl) (by kernel_rfl) (by kernel_rfl) rfl rfl rfl G0.out (by simp) NF S rfl row45 ?_; (try simp only [Act.put, List.setIfInBounds_toArray, List.set_cons_zero, List.set_cons_succ])
    refine takeY 4 38 (.int .i64 u) rfl (by kernel_rfl) (by kernel_rfl) (by kernel_rfl) (by kernel_rfl) rfl rfl NF S (fun w' hw' => by go_simp) ?_; (try simp only [Act.put, List.setIfInBounds_toArray, List.set_cons_zero, List.set_cons_succ])
    refine takeR 5 39 rfl (by kernel_rfl) (by kernel_rfl) (by kernel_rfl) (by kernel_rfl) rfl rfl rfl G1.out (by simp) NF S rfl row47 ?_; (try simp only [Act.put, List.setIfInBounds_toArray, List.set_cons_zero, List.set_cons_succ])
    have T : Lw w4 l false false 0 none 0 w4.drew := ⟨(Below.refl _ _).drew, fun e => (by cases e), fun e => (by cases e)⟩
    refine Lw.opq T (C := fun w => AnyM _ _ _ _ _ _ _ _ _ w) ?_
    clear T S
    intro wz T
    refine nextTwo 2 9 (by kernel_rfl) rfl rfl (fun K2 hK2 => ?_) (fun K9 hK9 => ?_)
    · go_simp
      go_at_call 83
      refine (headendref03_LabelsOf.calls kk a0 a1 a2 a3 a4 a5 u l _ Q1.out).mono ?_
      rintro e5 wx ⟨vx, rfl, hr5, hb5⟩
      obtain ⟨A, n5, c5, e6⟩ : ∃ A n c, vx = .slice A n c := by obtain ⟨A, m, h⟩ := Kd.R_slice hr5; exact ⟨A, _, m, h⟩
      subst e6
      obtain ⟨hn5, -, -⟩ := Kd.R_reads' hr5
      subst hn5
      have T := T.call2 hb5 hr5
      refine hK2.out _ _ (fun _ => T.so) ?_
      (try simp only [Act.put, List.setIfInBounds_toArray, List.set_cons_zero, List.set_cons_succ])
      refine nextTwo 6 9 (by kernel_rfl) rfl rfl (fun K6 hK6 => ?_) (fun K9 hK9 => ?_)
      · go_simp
        go_at_call 113
        refine (headendref03_Known.calls kk a0 a1 a2 a3 a4 a5 u v t (i : Int) _ Q2.out).mono ?_
        rintro e7 wy ⟨rfl, hb7⟩
        have T := T.on hb7
        refine hK6.out _ _ (fun _ => T.so) ?_
        (try simp only [Act.put, List.setIfInBounds_toArray, List.set_cons_zero, List.set_cons_succ])
        obtain ⟨_, hmx, hCx⟩ := Kd.R_reads' (T.l rfl)
        obtain ⟨ad, cc, ead, -⟩ := Kd.C_get hCx z47 (i : Int) (by omega) (by have := Q3.out; omega)
        subst ead
        have hi3 : (i : Int) < (l.length : Int) := by have := Q3.out; omega
        refine takeY 7 41 (.pointer (some (ad.add (i * 2)))) rfl (by kernel_rfl) (by kernel_rfl) (by kernel_rfl) (by kernel_rfl) rfl rfl NF T.so (fun w' hw' => by go_simp) ?_; (try simp only [Act.put, List.setIfInBounds_toArray, List.set_cons_zero, List.set_cons_succ])
        refine nextTwo 8 9 (by kernel_rfl) rfl rfl (fun K8 hK8 => ?_) (fun K9 hK9 => ?_)
        · obtain ⟨_, _, hC8⟩ := Kd.R_reads' (T.l rfl)
          rw [if_pos (by rfl)]
          refine wp_ldC (ty := 47) rfl hC8 i z47 [.int .i64 y.f0, .int .i64 y.f1] 2 rfl Q3.out (fun c h => by rw [← HY.out] at h; exact k47_cs c h) row47 rfl ?_
          refine hK8.out _ _ (fun _ => T.so) ?_
          (try simp only [Act.put, List.setIfInBounds_toArray, List.set_cons_zero, List.set_cons_succ])
          refine nextM 9 (by kernel_rfl) rfl (fun K9 hK9 => ?_)
          go_simp
          have T := T.box9
          refine hK9.out _ _ (fun _ => T.so) ?_
          (try simp only [Act.put, List.setIfInBounds_toArray, List.set_cons_zero, List.set_cons_succ])
          refine Lw.opq T (C := fun w => AnyM _ _ _ _ _ _ _ _ _ w) ?_
          clear T
          intro wz T
          refine nextM 10 (by kernel_rfl) rfl (fun K10 hK10 => ?_)
          rw [if_pos (by rfl)]
          refine wp_stR (ty := 47) rfl (T.o rfl).2 #[.int .i64 y.f0, .int .i64 y.f1] rfl rfl row47 rfl rfl (fun wa P1 => ?_)
          have PB := P1.below T.below (T.o rfl).1
          refine hK10.out _ _ (fun _ => ⟨PB.size, fun j hj _ => PB.block j hj⟩) ?_
          show AnyM _ _ _ _ _ _ _ _ (Act.put _ none undef) _
          (try simp only [Act.put, List.setIfInBounds_toArray, List.set_cons_zero, List.set_cons_succ])
          refine doneM (by kernel_rfl) ⟨rfl, (hQf _ _ _).2 ⟨_, some ad, c5, ad, ?_, PB, P1.at_⟩⟩ _
          show Act.put _ none undef = _
          (try simp only [Act.put, List.setIfInBounds_toArray, List.set_cons_zero, List.set_cons_succ])
        · go_simp
          have T := T.box9
          refine hK9.out _ _ (fun _ => T.so) ?_
          (try simp only [Act.put, List.setIfInBounds_toArray, List.set_cons_zero, List.set_cons_succ])
          refine Lw.opq T (C := fun w => AnyM _ _ _ _ _ _ _ _ _ w) ?_
          clear T
          intro wz T
          refine nextM 8 (by kernel_rfl) rfl (fun K8 hK8 => ?_)
          obtain ⟨_, _, hC8⟩ := Kd.R_reads' (T.l rfl)
          rw [if_pos (by rfl)]
          refine wp_ldC (ty := 47) rfl hC8 i z47 [.int .i64 y.f0, .int .i64 y.f1] 2 rfl Q3.out (fun c h => by rw [← HY.out] at h; exact k47_cs c h) row47 rfl ?_
          refine hK8.out _ _ (fun _ => T.so) ?_
          (try simp only [Act.put, List.setIfInBounds_toArray, List.set_cons_zero, List.set_cons_succ])
          refine nextM 10 (by kernel_rfl) rfl (fun K10 hK10 => ?_)
          rw [if_pos (by rfl)]
          refine wp_stR (ty := 47) rfl (T.o rfl).2 #[.int .i64 y.f0, .int .i64 y.f1] rfl rfl row47 rfl rfl (fun wa P1 => ?_)
          have PB := P1.below T.below (T.o rfl).1
          refine hK10.out _ _ (fun _ => ⟨PB.size, fun j hj _ => PB.block j hj⟩) ?_
          show AnyM _ _ _ _ _ _ _ _ (Act.put _ none undef) _
          (try simp only [Act.put, List.setIfInBounds_toArray, List.set_cons_zero, List.set_cons_succ])
          refine doneM (by kernel_rfl) ⟨rfl, (hQf _ _ _).2 ⟨_, some ad, c5, ad, ?_, PB, P1.at_⟩⟩ _
          show Act.put _ none undef = _
          (try simp only [Act.put, List.setIfInBounds_toArray, List.set_cons_zero, List.set_cons_succ])
      · go_simp
        have T := T.box9
        refine hK9.out _ _ (fun _ => T.so) ?_
        (try simp only [Act.put, List.setIfInBounds_toArray, List.set_cons_zero, List.set_cons_succ])
        refine Lw.opq T (C := fun w => AnyM _ _ _ _ _ _ _ _ _ w) ?_
        clear T
        intro wz T
        refine nextM 6 (by kernel_rfl) rfl (fun K6 hK6 => ?_)
        go_simp
        go_at_call 113
        refine (headendref03_Known.calls kk a0 a1 a2 a3 a4 a5 u v t (i : Int) _ Q2.out).mono ?_
        rintro e7 wy ⟨rfl, hb7⟩
        have T := T.on hb7
        refine hK6.out _ _ (fun _ => T.so) ?_
        (try simp only [Act.put, List.setIfInBounds_toArray, List.set_cons_zero, List.set_cons_succ])
        obtain ⟨_, hmx, hCx⟩ := Kd.R_reads' (T.l rfl)
        obtain ⟨ad, cc, ead, -⟩ := Kd.C_get hCx z47 (i : Int) (by omega) (by have := Q3.out; omega)
        subst ead
        have hi3 : (i : Int) < (l.length : Int) := by have := Q3.out; omega
        refine takeY 7 41 (.pointer (some (ad.add (i * 2)))) rfl (by kernel_rfl) (by kernel_rfl) (by kernel_rfl) (by kernel_rfl) rfl rfl NF T.so (fun w' hw' => by go_simp) ?_; (try simp only [Act.put, List.setIfInBounds_toArray, List.set_cons_zero, List.set_cons_succ])
        refine nextM 8 (by kernel_rfl) rfl (fun K8 hK8 => ?_)
        obtain ⟨_, _, hC8⟩ := Kd.R_reads' (T.l rfl)
        rw [if_pos (by rfl)]
        refine wp_ldC (ty := 47) rfl hC8 i z47 [.int .i64 y.f0, .int .i64 y.f1] 2 rfl Q3.out (fun c h => by rw [← HY.out] at h; exact k47_cs c h) row47 rfl ?_
        refine hK8.out _ _ (fun _ => T.so) ?_
        (try simp only [Act.put, List.setIfInBounds_toArray, List.set_cons_zero, List.set_cons_succ])
        refine nextM 10 (by kernel_rfl) rfl (fun K10 hK10 => ?_)
        rw [if_pos (by rfl)]
        refine wp_stR (ty := 47) rfl (T.o rfl).2 #[.int .i64 y.f0, .int .i64 y.f1] rfl rfl row47 rfl rfl (fun wa P1 => ?_)
        have PB := P1.below T.below (T.o rfl).1
        refine hK10.out _ _ (fun _ => ⟨PB.size, fun j hj _ => PB.block j hj⟩) ?_
        show AnyM _ _ _ _ _ _ _ _ (Act.put _ none undef) _
        (try simp only [Act.put, List.setIfInBounds_toArray, List.set_cons_zero, List.set_cons_succ])
        refine doneM (by kernel_rfl) ⟨rfl, (hQf _ _ _).2 ⟨_, some ad, c5, ad, ?_, PB, P1.at_⟩⟩ _
        show Act.put _ none undef = _
        (try simp only [Act.put, List.setIfInBounds_toArray, List.set_cons_zero, List.set_cons_succ])
    · go_simp
      have T := T.box9
      refine hK9.out _ _ (fun _ => T.so) ?_
      (try simp only [Act.put, List.setIfInBounds_toArray, List.set_cons_zero, List.set_cons_succ])
      refine Lw.opq T (C := fun w => AnyM _ _ _ _ _ _ _ _ _ w) ?_
      clear T
      intro wz T
      refine nextM 2 (by kernel_rfl) rfl (fun K2 hK2 => ?_)
      go_simp
      go_at_call 83
      refine (headendref03_LabelsOf.calls kk a0 a1 a2 a3 a4 a5 u l _ Q1.out).mono ?_
      rintro e5 wx ⟨vx, rfl, hr5, hb5⟩
      obtain ⟨A, n5, c5, e6⟩ : ∃ A n c, vx = .slice A n c := by obtain ⟨A, m, h⟩ := Kd.R_slice hr5; exact ⟨A, _, m, h⟩
      subst e6
      obtain ⟨hn5, -, -⟩ := Kd.R_reads' hr5
      subst hn5
      have T := T.call2 hb5 hr5
      refine hK2.out _ _ (fun _ => T.so) ?_
      (try simp only [Act.put, List.setIfInBounds_toArray, List.set_cons_zero, List.set_cons_succ])
      refine nextM 6 (by kernel_rfl) rfl (fun K6 hK6 => ?_)
      go_simp
      go_at_call 113
      refine (headendref03_Known.calls kk a0 a1 a2 a3 a4 a5 u v t (i : Int) _ Q2.out).mono ?_
      rintro e7 wy ⟨rfl, hb7⟩
      have T := T.on hb7
      refine hK6.out _ _ (fun _ => T.so) ?_
      (try simp only [Act.put, List.setIfInBounds_toArray, List.set_cons_zero, List.set_cons_succ])
      obtain ⟨_, hmx, hCx⟩ := Kd.R_reads' (T.l rfl)
      obtain ⟨ad, cc, ead, -⟩ := Kd.C_get hCx z47 (i : Int) (by omega) (by have := Q3.out; omega)
      subst ead
      have hi3 : (i : Int) < (l.length : Int) := by have := Q3.out; omega
      refine takeY 7 41 (.pointer (some (ad.add (i * 2)))) rfl (by kernel_rfl) (by kernel_rfl) (by kernel_rfl) (by kernel_rfl) rfl rfl NF T.so (fun w' hw' => by go_simp) ?_; (try simp only [Act.put, List.setIfInBounds_toArray, List.set_cons_zero, List.set_cons_succ])
      refine nextM 8 (by kernel_rfl) rfl (fun K8 hK8 => ?_)
      obtain ⟨_, _, hC8⟩ := Kd.R_reads' (T.l rfl)
      rw [if_pos (by rfl)]
      refine wp_ldC (ty := 47) rfl hC8 i z47 [.int .i64 y.f0, .int .i64 y.f1] 2 rfl Q3.out (fun c h => by rw [← HY.out] at h; exact k47_cs c h) row47 rfl ?_
      refine hK8.out _ _ (fun _ => T.so) ?_
      (try simp only [Act.put, List.setIfInBounds_toArray, List.set_cons_zero, List.set_cons_succ])
      refine nextM 10 (by kernel_rfl) rfl (fun K10 hK10 => ?_)
      rw [if_pos (by rfl)]
      refine wp_stR (ty := 47) rfl (T.o rfl).2 #[.int .i64 y.f0, .int .i64 y.f1] rfl rfl row47 rfl rfl (fun wa P1 => ?_)
      have PB := P1.below T.below (T.o rfl).1
      refine hK10.out _ _ (fun _ => ⟨PB.size, fun j hj _ => PB.block j hj⟩) ?_
      show AnyM _ _ _ _ _ _ _ _ (Act.put _ none undef) _
      (try simp only [Act.put, List.setIfInBounds_toArray, List.set_cons_zero, List.set_cons_succ])
      refine doneM (by kernel_rfl) ⟨rfl, (hQf _ _ _).2 ⟨_, some ad, c5, ad, ?_, PB, P1.at_⟩⟩ _
      show Act.put _ none undef = _
      (try simp only [Act.put, List.setIfInBounds_toArray, List.set_cons_zero, List.set_cons_succ])
  · rintro a' w5 hq
    obtain ⟨g, A, c, ad, rfl, hB5, hg5⟩ := (hQf _ _ _).1 hq
    clear hq hQf
    have I1 := Aside0.mk (blk_to G1.out hB5); have IG := Aside0.mk hg5
    have IB := Aside0.mk (GB.out.trans (hB5.mono GB.out.size))
    have x0 := cat IG.out 1 (.int .i64 y.f1) rfl; have x1 := cat I1.out 1 (.int .i64 t) rfl
    clear hB5 hg5
    go_wp2_with fail
    go_at_call 114
    refine (headendref03_Path.calls kk y.f1 t p _ Q4.out).mono ?_
    rintro e6 w6 ⟨v6, rfl, hr6, hb6⟩
    obtain ⟨A6, c6, e6, -, -⟩ := Kd.R_reads hr6
    subst e6
    have hb := IB.out.trans (hb6.mono IB.out.size)
    clear hr6 hb6 x0 x1
    go_wp2_with fail
    refine bodyPost_ret (ret_two rfl rfl rfl) rfl ?_
    exact ⟨by rw [F1.out]; rfl, hb⟩
end Go.Proofs.Ytafhimeoijmolaa.K
namespace Go.Proofs.Ytafhimeoijmolaa.K
open Go.RowKit Go.Shelf Go.Proofs.Ytafhimeoijmolaa.R9 Go.Proofs.YtafhimeoijmolaaW.PrintWords Go.Proofs.YtafhimeoijmolaaW.PrintLast Go.Proofs.YtafhimeoijmolaaW.PrintMore Go.Proofs.Ytafhimeoijmolaa.G
set_option linter.unusedVariables false
set_option linter.unusedSimpArgs false
attribute [local go_sem] Oper.semAt_some
def workF (a v t : Int) : List (Int × Int) → Option (Int × Int)
  | [] => some (0, 6)
  | x :: xs => (leadsF a x.1 x.2 v t).bind fun b => if b = true then (if x.2 = 0 then some (0, 0) else (cover_node_level.f t).bind fun p => (cover_node_level.f x.2).bind fun q => some (wrap64 (wrap64 (p - q) + 1), 0)) else workF a v t xs
theorem prefix_drop {α : Type} {pre xs : List α} {x : α} (h : pre ++ [x] <+: xs) : xs.drop pre.length = x :: xs.drop (pre ++ [x]).length := by
  obtain ⟨r, rfl⟩ := h
  simp
theorem two_set {W : World} {a b : Nat} {t6 t7 : TypeId} {x y : Value} (h6 : Boxed W a t6 x) (h7 : Boxed W b t7 y) (hne : a ≠ b) (x' y' : Value) : Boxed ((W.setCell ⟨a, 0, none⟩ x').setCell ⟨b, 0, none⟩ y') a t6 x' ∧ Boxed ((W.setCell ⟨a, 0, none⟩ x').setCell ⟨b, 0, none⟩ y') b t7 y' := by
  have h7' : Boxed (W.setCell ⟨a, 0, none⟩ x') b t7 y := (Below.heap_setCell W ⟨a, 0, none⟩ x' b (Ne.symm hne)).trans h7
  exact ⟨(Below.heap_setCell _ ⟨b, 0, none⟩ y' a hne).trans (h6.set x'), h7'.set y'⟩
theorem two_below {n a b : Nat} {w W : World} (h : Below n w W) (ha : n ≤ a) (hb : n ≤ b) (x y : Value) : Below n w ((W.setCell ⟨a, 0, none⟩ x).setCell ⟨b, 0, none⟩ y) := (h.setCell (p := ⟨a, 0, none⟩) ha x).setCell (p := ⟨b, 0, none⟩) hb y
set_option maxRecDepth 100000 in
theorem ret_work {tmps : Array Value} {W : World} {a b : Nat} {x y : Int} (ha : tmps.getD 6 undef = .pointer (some ⟨a, 0, none⟩)) (hb : tmps.getD 7 undef = .pointer (some ⟨b, 0, none⟩)) (h6 : Boxed W a 3 (.int .i64 x)) (h7 : Boxed W b 31 (.int .i64 y)) :
    (results Try.f47 tmps).run Try.prog W = .ok (.tuple #[.int .i64 x, .int .i64 y]) W := by
  have c6 := h6.cell
  have c7 := h7.cell
  have ha' : tmps[6]?.getD undef = .pointer (some ⟨a, 0, none⟩) := by simpa using ha
  have hb' : tmps[7]?.getD undef = .pointer (some ⟨b, 0, none⟩) := by simpa using hb
  simp [results, Try.f47, go_sem, ha', hb', c6, c7]
def workR (e : Int) (okR okS : Bool) (r : Int × Int) : Int × Int := if e = 0 then (if okR = true then (if okS = true then r else (0, 31)) else (0, 2)) else (0, e)
set_option maxHeartbeats 4000000 in
set_option maxRecDepth 100000 in
theorem Work_calls (a0 a1 a2 a3 a4 a5 u v t k d s e : Int) (okR okS : Bool) (r : Int × Int) (k2 : Nat) (w : World)
    (h1 : cover_enter.f 70 a0 a1 a2 a3 a4 a5 [] = some (k, d, s, e)) (h2 : e = 0 → cover_tree_receiver.f k d s u = some okR) (h3 : e = 0 → okR = true → cover_tree_subset.f k2 k d s v t = some okS)
    (hp : e = 0 → okR = true → okS = true → ∃ xs, labelsF k d s u = some xs ∧ xs.length ≤ 1000 ∧ workF k v t xs = some r) :
    Calls Try.prog 47 #[.agg #[.int .u8 a0, .int .i64 a1, .int .i64 a2, .int .u64 a3, .int .u64 a4, .int .u64 a5], .int .i64 u, .agg #[.int .i64 v, .int .i64 t]] w fun e' w' => e' = .returned (.tuple #[.int .i64 (workR e okR okS r).1, .int .i64 (workR e okR okS r).2]) ∧ Below w.heap.size w w' := by
  obtain ⟨W0, hW0⟩ : ∃ W0, ((((w.alloc (.cells #[.int .u8 a0, .int .i64 a1, .int .i64 a2, .int .u64 a3, .int .u64 a4, .int .u64 a5] 45)).alloc (.cells #[.int .i64 v, .int .i64 t] 47)).alloc (.cells #[.int .i64 0] 3)).alloc (.cells #[.int .i64 0] 31)) = W0 := ⟨_, rfl⟩
  have B0 := Aside0.mk (show W0.heap[w.heap.size]? = some (.cells #[.int .u8 a0, .int .i64 a1, .int .i64 a2, .int .u64 a3, .int .u64 a4, .int .u64 a5] 45 (0, 0)) by rw [← hW0]; exact (blk_alloc (blk_alloc (blk_alloc (newAt rfl) _) _) _))
  have B1 := Aside0.mk (show W0.heap[w.heap.size + 1]? = some (.cells #[.int .i64 v, .int .i64 t] 47 (0, 0)) by rw [← hW0]; exact (blk_alloc (blk_alloc (newAt (by simp)) _) _))
  have B2 := Aside0.mk (show W0.heap[w.heap.size + 1 + 1]? = some (.cells #[.int .i64 0] 3 (0, 0)) by rw [← hW0]; exact (blk_alloc (newAt (by simp)) _))
  have B3 := Aside0.mk (show W0.heap[w.heap.size + 1 + 1 + 1]? = some (.cells #[.int .i64 0] 31 (0, 0)) by rw [← hW0]; exact (newAt (by simp)))
  have BB := Aside0.mk (show Below w.heap.size w W0 by rw [← hW0]; exact (((((Below.refl _ w).alloc (Nat.le_refl _) _).alloc (by simp) _).alloc (by simp; omega) _).alloc (by simp; omega) _))
  have BBs := Aside0.mk (show w.heap.size + 4 = W0.heap.size by rw [← hW0]; simp)
  have HW := Aside0.mk hW0
  clear hW0
  have H1 := Aside0.mk h1; have H2 := Aside0.mk h2; have H3 := Aside0.mk h3; have HP := Aside0.mk hp
  obtain ⟨R, hR⟩ : ∃ R, R = workR e okR okS r := ⟨_, rfl⟩
  rw [← hR]
  have HR := Aside0.mk hR
  have e0 := HW.out
  clear h1 h2 h3 hp hR
  refine (callsIn_wide (n := 9)).1 ?_
  refine callsIn_of_wp_marks Try.func47 rfl trivial ?_ rfl
  simp only [Try.ntmps47, List.size_toArray, List.length_cons, List.length_nil, Nat.reduceAdd, Nat.reduceSub, Array.replicate_succ, Array.replicate_zero, List.push_toArray, List.append_toArray, List.nil_append, List.cons_append]
  gi_wp2_with (first | ((with_reducible refine ldR_in rfl rfl B0.out ?_ ?_ ?_); rfl; exact row45))
  refine ⟨trivial, (callsIn_wide.2 (cover_enter.calls 70 a0 a1 a2 a3 a4 a5 none 0 [] k d s e _ (C_nil' _ _) (Nat.le_refl _) H1.out)).mono ?_⟩
  rintro e1 w1 ⟨rfl, hb1⟩
  have hb1' : Below W0.heap.size W0 w1 := hb1
  have C1 := Aside0.mk (blk_to B1.out hb1'); have C2 := Aside0.mk (show Boxed w1 (w.heap.size + 1 + 1) 3 (.int .i64 0) from blk_to B2.out hb1'); have C3 := Aside0.mk (show Boxed w1 (w.heap.size + 1 + 1 + 1) 31 (.int .i64 0) from blk_to B3.out hb1')
  have CB := Aside0.mk (BB.out.trans (hb1'.mono BB.out.size))
  have hcs : w.heap.size + 4 ≤ w1.heap.size := by have := hb1'.size; have := BBs.out; omega
  clear hb1 hb1' e0 B0 B1 B2 B3 BB BBs HW H1
  obtain ⟨W1, hW1⟩ : ∃ W1, w1.alloc (.cells #[.int .u8 k, .int .i64 d, .int .i64 s] 134) = W1 := ⟨_, rfl⟩
  have DT := Aside0.mk (show W1.heap[w1.heap.size]? = some (.cells #[.int .u8 k, .int .i64 d, .int .i64 s] 134 (0, 0)) by rw [← hW1]; exact newAt rfl)
  have D1 := Aside0.mk (blk_id (blk_alloc C1.out _) hW1.symm)
  have D2 := Aside0.mk (show Boxed W1 (w.heap.size + 1 + 1) 3 (.int .i64 0) by rw [← hW1]; exact blk_alloc C2.out _)
  have D3 := Aside0.mk (show Boxed W1 (w.heap.size + 1 + 1 + 1) 31 (.int .i64 0) by rw [← hW1]; exact blk_alloc C3.out _)
  have DB := Aside0.mk (show Below w.heap.size w W1 by rw [← hW1]; exact CB.out.alloc CB.out.size _)
  clear C1 C2 C3 CB
  by_cases he : e = 0
  case neg =>
    have b0 : (e != 0) = true := by simp [he]
    have E1 := Aside0.mk (show R = (0, e) from HR.out.trans (if_neg he))
    have c2 := D2.out.cell; have f2 := D2.out.frozen; have c3 := D3.out.cell; have f3 := D3.out.frozen
    clear he H2 H3 HP
    gi_wp2
    have hs := two_set D2.out D3.out (by omega) (.int .i64 0) (.int .i64 e)
    exact ⟨_, ret_work rfl rfl hs.1 hs.2, by rw [E1.out], two_below DB.out (by omega) (by omega) _ _⟩
  have b0 : (e != 0) = false := by simp [he]
  have E1 := Aside0.mk (show R = (if okR = true then (if okS = true then r else (0, 31)) else (0, 2)) from HR.out.trans (if_pos he))
  have K2 := Aside0.mk (H2.out he); have K3 := Aside0.mk (H3.out he); have KP := Aside0.mk (HP.out he)
  clear H2 H3 HP HR
  subst he
  gi_wp2_with (first | ((with_reducible refine ldR_in rfl rfl DT.out ?_ ?_ ?_); rfl; exact row134))
  refine ⟨trivial, (callsIn_wide.2 (cover_tree_receiver.calls k d s u okR _ K2.out)).mono ?_⟩
  rintro e2 w2 ⟨rfl, hb2⟩
  have ET := Aside0.mk (blk_to DT.out hb2); have F1 := Aside0.mk (blk_to D1.out hb2); have F2 := Aside0.mk (boxed_below D2.out hb2); have F3 := Aside0.mk (boxed_below D3.out hb2)
  have EB := Aside0.mk (DB.out.trans (hb2.mono DB.out.size))
  clear hb2 DT D1 D2 D3 DB hW1
  cases okR with
  | false =>
    have E3 := Aside0.mk (show R = (0, 2) from E1.out)
    have c2 := F2.out.cell; have f2 := F2.out.frozen; have c3 := F3.out.cell; have f3 := F3.out.frozen
    gi_wp2
    have hs := two_set F2.out F3.out (by omega) (.int .i64 0) (.int .i64 2)
    exact ⟨_, ret_work rfl rfl hs.1 hs.2, by rw [E3.out], two_below EB.out (by omega) (by omega) _ _⟩
  | true =>
    have E3 := Aside0.mk (show R = (if okS = true then r else (0, 31)) from E1.out)
    have K3' := Aside0.mk (K3.out rfl); have KP' := Aside0.mk (KP.out rfl)
    clear E1 K3 KP K2
    gi_wp2_with (first | ((with_reducible refine ldR_in rfl rfl ET.out ?_ ?_ ?_); rfl; exact row134) | ((with_reducible refine ldR_in rfl rfl F1.out ?_ ?_ ?_); rfl; exact row47))
    refine ⟨trivial, (callsIn_wide.2 (cover_tree_subset.calls k2 k d s v t okS _ K3'.out)).mono ?_⟩
    rintro e3 w3 ⟨rfl, hb3⟩
    have GT := Aside0.mk (blk_to ET.out hb3); have G1 := Aside0.mk (blk_to F1.out hb3); have G2 := Aside0.mk (boxed_below F2.out hb3); have G3 := Aside0.mk (boxed_below F3.out hb3)
    have GB := Aside0.mk (EB.out.trans (hb3.mono EB.out.size))
    have hgt : w1.heap.size < w3.heap.size := (Array.getElem?_eq_some_iff.1 GT.out).1
    clear hb3 ET F1 F2 F3 EB K3'
    cases okS with
    | false =>
      have E4 := Aside0.mk (show R = (0, 31) from E3.out)
      have c2 := G2.out.cell; have f2 := G2.out.frozen; have c3 := G3.out.cell; have f3 := G3.out.frozen
      gi_wp2
      have hs := two_set G2.out G3.out (by omega) (.int .i64 0) (.int .i64 31)
      exact ⟨_, ret_work rfl rfl hs.1 hs.2, by rw [E4.out], two_below GB.out (by omega) (by omega) _ _⟩
    | true =>
      have E4 := Aside0.mk (show R = r from E3.out)
      obtain ⟨xs, hx1, hx2, hx3⟩ := KP'.out rfl
      have HX1 := Aside0.mk hx1; have HX2 := Aside0.mk hx2; have HX3 := Aside0.mk hx3
      clear hx1 hx2 hx3 E3 KP'
      gi_wp2_with (first | ((with_reducible refine ldR_in rfl rfl GT.out ?_ ?_ ?_); rfl; exact row134))
      refine ⟨trivial, (callsIn_wide.2 (labels_calls k d s u _)).mono ?_⟩
      rintro e4 w4 ⟨rfl, rfl⟩
      obtain ⟨W2, hW2⟩ : ∃ W2, ((w3.alloc (.cells #[.int .u8 k, .int .i64 d, .int .i64 s] 134)).alloc (.cells #[.int .i64 u] 3)) = W2 := ⟨_, rfl⟩
      have sW2 : W2.heap.size = w3.heap.size + 2 := by rw [← hW2]; simp
      have BT := Aside0.mk (show W2.heap[w3.heap.size]? = some (.cells #[.int .u8 k, .int .i64 d, .int .i64 s] 134 (0, 0)) by rw [← hW2]; exact blk_alloc (newAt rfl) _)
      have BU := Aside0.mk (show Boxed W2 (w3.heap.size + 1) 3 (.int .i64 u) by rw [← hW2]; exact newAt (by simp))
      have LT := Aside0.mk (show W2.heap[w1.heap.size]? = some (.cells #[.int .u8 k, .int .i64 d, .int .i64 s] 134 (0, 0)) by rw [← hW2]; exact blk_alloc (blk_alloc GT.out _) _)
      have L1 := Aside0.mk (show W2.heap[w.heap.size + 1]? = some (.cells #[.int .i64 v, .int .i64 t] 47 (0, 0)) by rw [← hW2]; exact blk_alloc (blk_alloc G1.out _) _)
      have L2 := Aside0.mk (show Boxed W2 (w.heap.size + 1 + 1) 3 (.int .i64 0) by rw [← hW2]; exact blk_alloc (blk_alloc G2.out _) _)
      have L3 := Aside0.mk (show Boxed W2 (w.heap.size + 1 + 1 + 1) 31 (.int .i64 0) by rw [← hW2]; exact blk_alloc (blk_alloc G3.out _) _)
      have LB := Aside0.mk (show Below w.heap.size w W2 by rw [← hW2]; exact (GB.out.alloc GB.out.size _).alloc (by have := GB.out.size; simp; omega) _)
      have hgs : w.heap.size ≤ w3.heap.size := GB.out.size
      gi_wp2
      clear hW2 GT G1 G2 G3 GB
      refine wpIn_range9s (P := Try.prog) (gf := 129) (lb := #[.pointer (some ⟨w3.heap.size, 0, none⟩), .pointer (some ⟨w3.heap.size + 1, 0, none⟩)]) rfl (enters_of Try.func129 (by kernel_rfl) rfl)
        (labels_seq9 (9 - 1) (by omega) _ _ k d s u xs HX1.out _ BT.out BU.out) (Below.refl _ _) (fun _ => rfl)
        (fun pre W => workF k v t (xs.drop pre.length) = some r ∧ (Boxed W (w.heap.size + 1 + 1) 3 (.int .i64 0) ∧ (Boxed W (w.heap.size + 1 + 1 + 1) 31 (.int .i64 0) ∧ (W.heap[w1.heap.size]? = some (.cells #[.int .u8 k, .int .i64 d, .int .i64 s] 134 (0, 0)) ∧ (W.heap[w.heap.size + 1]? = some (.cells #[.int .i64 v, .int .i64 t] 47 (0, 0)) ∧ Below w.heap.size w W)))))
        (fun cd pre W => cd = .ret ∧ (Boxed W (w.heap.size + 1 + 1) 3 (.int .i64 r.1) ∧ (Boxed W (w.heap.size + 1 + 1 + 1) 31 (.int .i64 r.2) ∧ Below w.heap.size w W)))
        ?hI (fun cd => Own9.and (own9_pure _ _) (Own9.and (own9_boxed 3 (fun _ => .int .i64 r.1) (.inl (by omega))) (Own9.and (own9_boxed 31 (fun _ => .int .i64 r.2) (.inl (by omega))) (own9_below (Nat.le_refl _) (by omega)))))
        ⟨by simpa using HX3.out, L2.out, L3.out, LT.out, L1.out, LB.out⟩ ?round ?done ?stop
      case hI =>
        refine Own9.and (own9_pure _ _) (Own9.and (own9_boxed 3 (fun _ => .int .i64 0) (.inl (by omega))) (Own9.and (own9_boxed 31 (fun _ => .int .i64 0) (.inl (by omega))) (Own9.and ?_ (Own9.and ?_ (own9_below (Nat.le_refl _) (by omega))))))
        · exact fun pre W W' row hs hg hr => (hg.block _ (Array.getElem?_eq_some_iff.1 hs).1 (fun e => by have := (hr _ e.symm).1; omega)).trans hs
        · exact fun pre W W' row hs hg hr => (hg.block _ (Array.getElem?_eq_some_iff.1 hs).1 (fun e => by have := (hr _ e.symm).1; omega)).trans hs
      case round =>
        intro l pre x W hpx
        have hpd := prefix_drop hpx
        have HPD := Aside0.mk hpd
        clear hpx hpd
        simp only [enc2]
        gi_wp2
        refine ⟨trivial, ?_⟩
        rintro W3 ⟨f1, f2, f3, f4, f5, f6⟩
        rw [HPD.out] at f1
        simp only [workF] at f1
        obtain ⟨b, hb, f1⟩ := Option.bind_eq_some_iff.mp f1
        have HB := Aside0.mk hb; have M1 := Aside0.mk f1; have M2 := Aside0.mk f2; have M3 := Aside0.mk f3; have MT := Aside0.mk f4; have MX := Aside0.mk f5; have MB := Aside0.mk f6
        clear hb f1 f2 f3 f4 f5 f6
        gi_wp2_with (first | ((with_reducible refine ldR_in rfl rfl MT.out ?_ ?_ ?_); rfl; exact row134) | ((with_reducible refine ldR_in rfl rfl MX.out ?_ ?_ ?_); rfl; exact row47))
        refine ⟨trivial, (CallsIn.inRound l (callsIn_wide.2 (leads_calls k d s x.1 x.2 z26 v t b HB.out W3))).mono ?_⟩
        rintro e5 w5 ⟨rfl, hb5⟩
        have N2 := Aside0.mk (boxed_below M2.out hb5); have N3 := Aside0.mk (boxed_below M3.out hb5); have NX := Aside0.mk (blk_to MX.out hb5); have NT := Aside0.mk (blk_to MT.out hb5)
        have NB := Aside0.mk (MB.out.trans (hb5.mono MB.out.size))
        have HK := Aside0.mk (keepsOthers_below hb5)
        have HK9 := Aside0.mk (Kp9.of_below hb5)
        clear hb5 M2 M3 MX MT MB HB
        cases b with
        | false =>
          have hf := M1.out
          simp only [Bool.false_eq_true, if_false] at hf
          have HF := Aside0.mk hf
          clear hf
          gi_wp2
          exact ⟨HK.out.from _, HK9.out, HF.out, N2.out, N3.out, NT.out, NX.out, NB.out⟩
        | true =>
          have hf := M1.out
          simp only [if_true] at hf
          by_cases hx0 : x.2 = 0
          · rw [if_pos hx0] at hf
            have HF := Aside0.mk (Option.some.inj hf).symm
            have b1 : (x.2 == 0) = true := by simp [hx0]
            have c2 := N2.out.cell; have f2 := N2.out.frozen; have c3 := N3.out.cell; have f3 := N3.out.frozen
            clear hf hx0
            gi_wp2
            have hs := two_set N2.out N3.out (by omega) (.int .i64 0) (.int .i64 0)
            refine ⟨((HK.out.trans (KeepsOthers.setCell _ ⟨_, 0, none⟩ _)).trans (KeepsOthers.setCell _ ⟨_, 0, none⟩ _)).from _, rfl, ?_, ?_, two_below NB.out (by omega) (by omega) _ _⟩
            · rw [HF.out]; exact hs.1
            · rw [HF.out]; exact hs.2
          · rw [if_neg hx0] at hf
            obtain ⟨p, hp1, hf⟩ := Option.bind_eq_some_iff.mp hf
            obtain ⟨q, hq1, hf⟩ := Option.bind_eq_some_iff.mp hf
            have HF := Aside0.mk (Option.some.inj hf).symm
            have HP1 := Aside0.mk hp1; have HQ1 := Aside0.mk hq1
            have b1 : (x.2 == 0) = false := by simp [hx0]
            have x1 := cat NX.out 1 (.int .i64 t) rfl
            clear hf hx0 hp1 hq1
            gi_wp2_with fail
            refine ⟨trivial, (CallsIn.inRound l (callsIn_wide.2 (cover_node_level.calls t p w5 HP1.out))).mono ?_⟩
            rintro e6 w6 ⟨rfl, ⟨⟨m6, rfl⟩⟩⟩
            gi_wp2_with fail
            refine ⟨trivial, (CallsIn.inRound l (callsIn_wide.2 (cover_node_level.calls x.2 q _ HQ1.out))).mono ?_⟩
            rintro e7 w7 ⟨rfl, ⟨⟨m7, rfl⟩⟩⟩
            obtain ⟨w7, hw7⟩ : ∃ w7, (w5.drewN m6).drewN m7 = w7 := ⟨_, rfl⟩
            have P2 := Aside0.mk (show Boxed w7 (w.heap.size + 1 + 1) 3 (.int .i64 0) by rw [← hw7]; exact N2.out)
            have P3 := Aside0.mk (show Boxed w7 (w.heap.size + 1 + 1 + 1) 31 (.int .i64 0) by rw [← hw7]; exact N3.out)
            have PB := Aside0.mk (show Below w.heap.size w w7 by rw [← hw7]; exact pw_below_drewN (pw_below_drewN NB.out _) _)
            have PK := Aside0.mk (show KeepsOthers W3 w7 by rw [← hw7]; exact HK.out.trans (keepsOthers_below (pw_below_drewN (pw_below_drewN (Below.refl _ _) _) _)))
            have c2 := P2.out.cell; have f2 := P2.out.frozen; have c3 := P3.out.cell; have f3 := P3.out.frozen
            rw [hw7]
            clear hw7 x1
            gi_wp2
            have hs := two_set P2.out P3.out (by omega) (.int .i64 (wrap64 (wrap64 (p - q) + 1))) (.int .i64 0)
            refine ⟨((PK.out.trans (KeepsOthers.setCell _ ⟨_, 0, none⟩ _)).trans (KeepsOthers.setCell _ ⟨_, 0, none⟩ _)).from _, rfl, ?_, ?_, two_below PB.out (by omega) (by omega) _ _⟩
            · rw [HF.out]; exact hs.1
            · rw [HF.out]; exact hs.2
      case done =>
        rintro D W hD ⟨hr, hb6, hb7, -, -, hB⟩ hK
        have c2 := hb6.cell; have f2 := hb6.frozen; have c3 := hb7.cell; have f3 := hb7.frozen
        have hr0 : r = (0, 6) := by rw [List.drop_length] at hr; exact (Option.some.inj hr).symm
        gi_wp2
        have hs := two_set hb6 hb7 (by omega) (.int .i64 0) (.int .i64 6)
        have hK' := (KeepsOthers.setCell _ ⟨w.heap.size + 1 + 1 + 1, 0, none⟩ (.int .i64 6)).same D _ ((KeepsOthers.setCell W ⟨w.heap.size + 1 + 1, 0, none⟩ (.int .i64 0)).same D _ hK rfl) rfl
        refine ⟨by simp, .inl ⟨_, _, rfl, run_takeDeferred hK', ?_⟩⟩
        refine ⟨_, ret_work rfl rfl (hs.1.kept (grownBy_putObj' _ D (.deferred none)) (by intro e; injection e with e; omega)) (hs.2.kept (grownBy_putObj' _ D (.deferred none)) (by intro e; injection e with e; omega)), by rw [E4.out, hr0], (two_below hB (by omega) (by omega) _ _).trans (belowK_b (w := w) (Nat.le_refl _) _ D _ _ (by omega) hK' rfl rfl)⟩
      case stop =>
        rintro D c pre W hD ⟨rest, hpre⟩ ⟨rfl, hb6, hb7, hB⟩ hK
        gi_wp2
        refine ⟨by simp, .inl ⟨_, _, rfl, run_takeDeferred hK, ?_⟩⟩
        refine ⟨_, ret_work rfl rfl (hb6.kept (grownBy_putObj' _ D (.deferred none)) (by intro e; injection e with e; omega)) (hb7.kept (grownBy_putObj' _ D (.deferred none)) (by intro e; injection e with e; omega)), by rw [E4.out], hB.trans (belowK_b (w := w) (Nat.le_refl _) _ D _ _ (by omega) hK rfl rfl)⟩
end Go.Proofs.Ytafhimeoijmolaa.K
namespace Go.Proofs.Ytafhimeoijmolaa.K
open Go.RowKit  Go.Proofs.YtafhimeoijmolaaW.PrintWords Go.Proofs.YtafhimeoijmolaaW.PrintLast Go.Proofs.YtafhimeoijmolaaW.PrintMore Go.Proofs.Ytafhimeoijmolaa.G
set_option linter.unusedVariables false
set_option linter.unusedSimpArgs false
def sameLab : List (Int × Int) → List S47 → Bool
  | [], [] => true
  | (.ofNat a, .ofNat b) :: xs, ⟨.ofNat c, .ofNat d⟩ :: ys => Nat.beq a c && (Nat.beq b d && ((Nat.beq b 0 || (pathF 9 (Int.ofNat a) (Int.ofNat b)).isSome) && sameLab xs ys))
  | _, _ => false
theorem sameLab_eq : ∀ (xs : List (Int × Int)) (ys : List S47), sameLab xs ys = true → xs = ys.map (fun y => (y.f0, y.f1)) ∧ ∀ x ∈ xs, x.2 ≠ 0 → ∃ ps, pathF 9 x.1 x.2 = some ps
  | [], [], _ => ⟨rfl, fun _ h => by cases h⟩
  | (.ofNat a, .ofNat b) :: xs, ⟨.ofNat c, .ofNat d⟩ :: ys, h => by
    unfold sameLab at h
    simp only [Bool.and_eq_true, Bool.or_eq_true] at h
    obtain ⟨h1, h2, h3, h4⟩ := h
    obtain ⟨e, hp⟩ := sameLab_eq xs ys h4
    refine ⟨by rw [Nat.eq_of_beq_eq_true h1, Nat.eq_of_beq_eq_true h2, e]; rfl, ?_⟩
    intro x hx hne
    rcases List.mem_cons.1 hx with rfl | hx
    · rcases h3 with h3 | h3
      · exact absurd (by rw [Nat.eq_of_beq_eq_true h3]; rfl) hne
      · exact Option.isSome_iff_exists.1 h3
    · exact hp x hx hne
  | [], _ :: _, h => by simp [sameLab] at h
  | _ :: _, [], h => by unfold sameLab at h; split at h <;> simp_all
  | (.negSucc _, _) :: _, _ :: _, h => by simp [sameLab] at h
  | (.ofNat _, .negSucc _) :: _, _ :: _, h => by simp [sameLab] at h
  | (.ofNat _, .ofNat _) :: _, ⟨.negSucc _, _⟩ :: _, h => by simp [sameLab] at h
  | (.ofNat _, .ofNat _) :: _, ⟨.ofNat _, .negSucc _⟩ :: _, h => by simp [sameLab] at h
def labOk (a d u : Nat) : Bool := match labelsF (a : Int) (d : Int) (strd d : Int) (u : Int), headendref03_LabelsOf.f 100 (a : Int) (d : Int) 0 0 0 0 (u : Int) with
  | some xs, some l => Nat.ble xs.length 64 && sameLab xs l
  | _, _ => false
set_option maxRecDepth 100000 in
theorem lab_fin : all2 4 7 (fun a d => Nat.beq a 0 || (List.range (2 ^ d)).all (fun u => labOk a d u)) = true := by kernel_rfl
theorem lab_n {a d u : Nat} (ha : 1 ≤ a) (ha3 : a ≤ 3) (hd : d ≤ 6) (hu : u < 2 ^ d) : ∃ xs l, labelsF (a : Int) (d : Int) (strd d : Int) (u : Int) = some xs ∧ headendref03_LabelsOf.f 100 (a : Int) (d : Int) 0 0 0 0 (u : Int) = some l ∧ xs.length ≤ 64 ∧ xs = l.map (fun y => (y.f0, y.f1)) ∧ ∀ x ∈ xs, x.2 ≠ 0 → ∃ ps, pathF 9 x.1 x.2 = some ps := by
  have h := all2_at lab_fin (show a < 4 by omega) (show d < 7 by omega)
  rw [beq_ne (show a ≠ 0 by omega)] at h
  simp only [Bool.false_or] at h
  have h2 := List.all_eq_true.1 h u (List.mem_range.2 hu)
  unfold labOk at h2
  split at h2
  · rename_i xs l e1 e2
    simp only [Bool.and_eq_true] at h2
    obtain ⟨h3, h4⟩ := sameLab_eq xs l h2.2
    exact ⟨xs, l, e1, e2, Nat.le_of_ble_eq_true h2.1, h3, h4⟩
  · cases h2
end Go.Proofs.Ytafhimeoijmolaa.K
namespace Go.Proofs.Ytafhimeoijmolaa.G
open Go.RowKit Go.Proofs.YtafhimeoijmolaaW.PrintWords Go.Proofs.YtafhimeoijmolaaW.PrintLast Go.Proofs.YtafhimeoijmolaaW.PrintMore
set_option linter.unusedVariables false
set_option linter.unusedSimpArgs false
theorem path_fin : all2 128 128 (fun v w => !(blw w v) || opL (pathF 9 (v : Int) (w : Int)) (nodesTo v w)) = true := by kernel_rfl
theorem path_n {v w : Nat} (hv : v < 128) (hw : w < 128) (hb : blw w v = true) : pathF 9 (v : Int) (w : Int) = some ((nodesTo v w).map Int.ofNat) := by
  have h1 := all2_at path_fin hv hw
  rw [hb] at h1
  exact opL_eq (by simpa using h1)
theorem sub_below' {a d n m : Nat} (ha : 1 ≤ a) (h : subI a d (n : Int) (m : Int) = true) (h1 : a ≠ 1) (h2 : m ≠ 0) : blw m n = true ∧ m ≠ n := by
  unfold subI at h
  simp only [Bool.and_eq_true, decide_eq_true_eq] at h
  obtain ⟨_, _, h3⟩ := h
  rw [if_neg h1, if_neg (by omega)] at h3
  simp only [Bool.and_eq_true, decide_eq_true_eq, Bool.not_eq_true', decide_eq_false_iff_not, Int.toNat_natCast] at h3
  exact ⟨h3.2.2.2.1, by omega⟩
end Go.Proofs.Ytafhimeoijmolaa.G
