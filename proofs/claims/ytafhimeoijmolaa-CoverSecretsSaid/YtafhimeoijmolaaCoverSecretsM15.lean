/- Texts of this claim, one behind the other, as far as they are used: O2, N9, O3. -/
import Derived.Test.YtafhimeoijmolaaO1
import Derived.Deep.Slices
import Derived.Deep.Fields
import Derived.ChangeSame
import Derived.Test.YtafhimeoijmolaaCoverSecretsM6
import Derived.Test.YtafhimeoijmolaaCoverSecretsM12
import Derived.Test.YtafhimeoijmolaaCoverSecretsM13
import Derived.Test.YtafhimeoijmolaaCoverSecretsM14
namespace Go.Proofs.Ytafhimeoijmolaa.O
open Go.ChangeShapes Go.WideShapes Go.ChangeAt Go.RowKit Go.Deep Go.Proofs.Ytafhimeoijmolaa.G Go.Proofs.Ytafhimeoijmolaa.K Go.Proofs.YtafhimeoijmolaaW.PrintWords
set_option linter.unusedVariables false
set_option linter.unusedSimpArgs false
set_option maxRecDepth 100000 in
theorem cell_u8 {W : World} {base : Nat} {v : Value} (h : Cell.okWide Try.prog W .any base 5 v) : ∃ n, v = .int .u8 n ∧ 0 ≤ n ∧ n < 256 := by
  have ht := Try.underlying5
  simp only [ht, Cell.okWide] at h
  cases v <;> simp_all [Cell.ok]
  simp [IntKind.has, IntKind.min, IntKind.max, IntKind.signed, IntKind.bits] at h
  omega
theorem arr16 {α : Type} {cs : Array α} (h : cs.size = 16) : ∃ a b c d e f g i j k l m n o p q, cs = #[a, b, c, d, e, f, g, i, j, k, l, m, n, o, p, q] := by
  obtain ⟨l⟩ := cs
  match l, h with
  | [a, b, c, d, e, f, g, i, j, k, l, m, n, o, p, q], _ => exact ⟨a, b, c, d, e, f, g, i, j, k, l, m, n, o, p, q, rfl⟩
section
variable {H : Type} {enc : TypeId × Value → H} {W : World} {base : Nat} {v : Value} {d : DataW H} {p : List MemPlace} {ts : List TypeId} {ds : List (DataW H)}
set_option maxRecDepth 100000 in
theorem arg26 (hsz : (DataW.weightsEach Try.prog ts ds).all (· ≤ reachBytes) = true) (hv : Value.okWide Try.prog W .any base 26 v) (h : DataW.Trod enc Try.prog W 0 (fun _ => true) true 26 v d p) (j : Nat) (h1 : ts[j]? = some 26) (h2 : ds[j]? = some d) :
    ∃ k : S26, v = kv k ∧ KOK k := by
  obtain ⟨cs, rfl, hs, hc⟩ := open_row (ts := [5, 5, 5, 5, 5, 5, 5, 5, 5, 5, 5, 5, 5, 5, 5, 5]) (.inr ⟨_, _, Try.underlying26⟩) (by kernel_rfl) (by kernel_rfl) rfl hv
  obtain ⟨c0, c1, c2, c3, c4, c5, c6, c7, c8, c9, c10, c11, c12, c13, c14, c15, rfl⟩ := arr16 hs
  obtain ⟨a0, rfl, r0⟩ := cell_u8 (hc 0 c0 5 rfl rfl)
  obtain ⟨a1, rfl, r1⟩ := cell_u8 (hc 1 c1 5 rfl rfl)
  obtain ⟨a2, rfl, r2⟩ := cell_u8 (hc 2 c2 5 rfl rfl)
  obtain ⟨a3, rfl, r3⟩ := cell_u8 (hc 3 c3 5 rfl rfl)
  obtain ⟨a4, rfl, r4⟩ := cell_u8 (hc 4 c4 5 rfl rfl)
  obtain ⟨a5, rfl, r5⟩ := cell_u8 (hc 5 c5 5 rfl rfl)
  obtain ⟨a6, rfl, r6⟩ := cell_u8 (hc 6 c6 5 rfl rfl)
  obtain ⟨a7, rfl, r7⟩ := cell_u8 (hc 7 c7 5 rfl rfl)
  obtain ⟨a8, rfl, r8⟩ := cell_u8 (hc 8 c8 5 rfl rfl)
  obtain ⟨a9, rfl, r9⟩ := cell_u8 (hc 9 c9 5 rfl rfl)
  obtain ⟨a10, rfl, r10⟩ := cell_u8 (hc 10 c10 5 rfl rfl)
  obtain ⟨a11, rfl, r11⟩ := cell_u8 (hc 11 c11 5 rfl rfl)
  obtain ⟨a12, rfl, r12⟩ := cell_u8 (hc 12 c12 5 rfl rfl)
  obtain ⟨a13, rfl, r13⟩ := cell_u8 (hc 13 c13 5 rfl rfl)
  obtain ⟨a14, rfl, r14⟩ := cell_u8 (hc 14 c14 5 rfl rfl)
  obtain ⟨a15, rfl, r15⟩ := cell_u8 (hc 15 c15 5 rfl rfl)
  refine ⟨⟨a0, a1, a2, a3, a4, a5, a6, a7, a8, a9, a10, a11, a12, a13, a14, a15⟩, rfl, ?_⟩
  intro b hb
  simp only [K.bytesOf, List.mem_cons, List.not_mem_nil, or_false] at hb
  rcases hb with rfl | rfl | rfl | rfl | rfl | rfl | rfl | rfl | rfl | rfl | rfl | rfl | rfl | rfl | rfl | rfl <;> assumption
end
end Go.Proofs.Ytafhimeoijmolaa.O
namespace Go.Proofs.Ytafhimeoijmolaa.K
open Go.RowKit  Go.Proofs.YtafhimeoijmolaaW.PrintWords Go.Proofs.YtafhimeoijmolaaW.PrintLast Go.Proofs.YtafhimeoijmolaaW.PrintMore Go.Proofs.Ytafhimeoijmolaa.G
set_option linter.unusedVariables false
set_option linter.unusedSimpArgs false
theorem add_at (g o i : Nat) : (⟨g, o, none⟩ : Addr).add i = ⟨g, o + i, none⟩ := by
  unfold Addr.add
  split
  · next h => subst h; rfl
  · rfl
theorem R_node {w : World} {base g n c : Nat} {ok : Nat → Prop} {ys : List S83} (h : Kd.R k83 83 w base ok (.slice (some ⟨g, 0, none⟩) n c) ys) (i : Nat) (hi : i < n) :
    (∃ x, w.cell? ⟨g, i * 18, none⟩ = some (.int .i64 x)) ∧ w.frozen? ⟨g, i * 18, none⟩ = false ∧ ∀ z : Int, ∃ ys', Kd.R k83 83 (w.setCell ⟨g, i * 18, none⟩ (.int .i64 z)) base ok (.slice (some ⟨g, 0, none⟩) n c) ys' := by
  obtain ⟨cs, hl, hM, hc, hf⟩ := Kd.R_elem h z83 (i : Int) (by omega) (by omega)
  rw [Int.toNat_natCast] at hM hc hf
  have hk := k83_cs cs (k83.K_of_M hM)
  refine ⟨⟨(ys.getD i z83).f0, ?_⟩, ?_, fun z => ?_⟩
  · exact hc 0 _ (by rw [hk]; rfl)
  · exact hf 0
  · have h2 := Kd.R_seg (okp := fun _ => False) (seg := [.int .i64 z]) (j := 0) (x' := { ys.getD i z83 with f0 := z }) h (i : Int) (by omega) (by omega) hl (by rw [Int.toNat_natCast]; exact hc) (by show 0 + 1 ≤ 18; omega) (by rw [hk]; exact k83_mkM _ _ _ _) (fun _ h => h.elim)
    rw [Int.toNat_natCast] at h2
    exact ⟨_, h2.1⟩
set_option maxHeartbeats 4000000 in
set_option maxRecDepth 100000 in
theorem secrets_calls (root : S26) (hkr : KOK root) (a0 a1 a2 a3 a4 a5 u : Int) (w : World) :
    Calls Try.prog 8 #[kv root, .agg #[.int .u8 a0, .int .i64 a1, .int .i64 a2, .int .u64 a3, .int .u64 a4, .int .u64 a5], .int .i64 u] w fun e' w' => e' = .returned (.bool true) ∧ Below w.heap.size w w' := by
  obtain ⟨r, e, ys, hP, hR⟩ := secret_both root a0 a1 a2 a3 a4 a5 u (fun l W h1 h2 h3 => rSecretOf_ok root a0 a1 a2 a3 a4 a5 u l 100 W h1 h2 hkr h3)
  have HP := Aside0.mk hP; have HR := Aside0.mk hR
  clear hP hR hkr
  obtain ⟨W0, hW0⟩ : ∃ W0, ((w.alloc (.cells (kc root) 26)).alloc (.cells #[.int .u8 a0, .int .i64 a1, .int .i64 a2, .int .u64 a3, .int .u64 a4, .int .u64 a5] 45)) = W0 := ⟨_, rfl⟩
  have B0 := Aside0.mk (show W0.heap[w.heap.size]? = some (.cells (kc root) 26 (0, 0)) by rw [← hW0]; exact (blk_alloc (newAt rfl) _))
  have B1 := Aside0.mk (show W0.heap[w.heap.size + 1]? = some (.cells #[.int .u8 a0, .int .i64 a1, .int .i64 a2, .int .u64 a3, .int .u64 a4, .int .u64 a5] 45 (0, 0)) by rw [← hW0]; exact (newAt (by simp)))
  have BB := Aside0.mk (show Below w.heap.size w W0 by rw [← hW0]; exact (((Below.refl _ w).alloc (Nat.le_refl _) _).alloc (by simp) _))
  have BBs := Aside0.mk (show w.heap.size + 2 = W0.heap.size by rw [← hW0]; simp)
  have HW := Aside0.mk hW0
  clear hW0
  have e0 := HW.out
  go_enter Try.func8, Try.ntmps8
  go_wp2_with (first | ((with_reducible refine ldR rfl rfl B0.out ?_ ?_ ?_); rfl; exact row26) | ((with_reducible refine ldR rfl rfl B1.out ?_ ?_ ?_); rfl; exact row45))
  go_at_call 41
  refine (HP.out _).mono ?_
  rintro e1 w1 ⟨A1, n1, c1, rfl, hr1, hb1⟩
  have hb1' : Below W0.heap.size W0 w1 := hb1
  have hr1' : Kd.R k83 83 w1 W0.heap.size (fun _ => True) (.slice A1 n1 c1) ys := hr1
  obtain ⟨hn1, -, -⟩ := Kd.R_reads' hr1'
  subst hn1
  have C0 := Aside0.mk (blk_to B0.out hb1'); have C1 := Aside0.mk (blk_to B1.out hb1')
  have CR := Aside0.mk (Kd.R_mono (ok' := fun k => W0.heap.size ≤ k ∧ k < w1.heap.size) (Kd.R_bound hr1') (fun k hk => ⟨hk.2.1, hk.2.2.1⟩))
  have CB := Aside0.mk (BB.out.trans (hb1'.mono BB.out.size))
  have hcs : W0.heap.size ≤ w1.heap.size := hb1'.size
  have hW0 : w.heap.size + 2 = W0.heap.size := BBs.out
  have HP2 := HP
  clear hb1 hb1' hr1 hr1' e0 B0 B1 BB HW HP
  go_wp2_with (first
    | (((with_reducible refine stR rfl rfl (newAt rfl) (sc r A1 ys.length c1 0 0) ?_ ?_ ?_ ?_ ?_ ?_); rfl; rfl; exact row76; rfl; rfl; intro W2 P1); have D0 := Aside0.mk (P1.blk (blk_alloc C0.out _) (by omega)); have D1 := Aside0.mk (P1.blk (blk_alloc C1.out _) (by omega)); have DA := Aside0.mk P1.at_; have DW := Aside0.mk (show Below w1.heap.size w1 W2 from P1.below ((Below.refl _ _).alloc (Nat.le_refl _) _) (Nat.le_refl _)); have hds : w1.heap.size + 1 = W2.heap.size := (by have := P1.size; simp at this; omega); clear P1)
    | ((with_reducible refine ldR rfl rfl D0.out ?_ ?_ ?_); rfl; exact row26) | ((with_reducible refine ldR rfl rfl D1.out ?_ ?_ ?_); rfl; exact row45))
  go_at_call 42
  have DR := Aside0.mk (Kd.R_below CR.out DW.out)
  have DB := Aside0.mk (CB.out.trans (DW.out.mono CB.out.size))
  refine (HR.out _).mono ?_
  rintro e2 w2 ⟨A2, n2, c2, rfl, hr2, hb2⟩
  obtain ⟨hn2, -, -⟩ := Kd.R_reads' hr2
  subst hn2
  have E0 := Aside0.mk (blk_to D0.out hb2); have E1 := Aside0.mk (blk_to D1.out hb2); have EA := Aside0.mk (blk_to DA.out hb2)
  have ER := Aside0.mk (Kd.R_below DR.out hb2)
  have ES := Aside0.mk (Kd.R_mono (ok' := fun k => W2.heap.size ≤ k) (Kd.R_bound hr2) (fun k hk => hk.2.1))
  have EB := Aside0.mk (DB.out.trans (hb2.mono DB.out.size))
  have hes : W2.heap.size ≤ w2.heap.size := hb2.size
  clear hb2 hr2 C0 C1 CB D0 D1 DA DB DW HR
  go_wp2_with (first
    | (((with_reducible refine stR rfl rfl (newAt rfl) (sc r A2 ys.length c2 0 0) ?_ ?_ ?_ ?_ ?_ ?_); rfl; rfl; exact row76; rfl; rfl; intro W3 P2); have F0 := Aside0.mk (P2.blk (blk_alloc E0.out _) (by omega)); have F1 := Aside0.mk (P2.blk (blk_alloc E1.out _) (by omega)); have FA := Aside0.mk (P2.blk (blk_alloc EA.out _) (by omega)); have FS := Aside0.mk P2.at_; have FW := Aside0.mk (show Below w2.heap.size w2 W3 from P2.below ((Below.refl _ _).alloc (Nat.le_refl _) _) (Nat.le_refl _)); have hfs : w2.heap.size + 1 = W3.heap.size := (by have := P2.size; simp at this; omega); clear P2)
    | ((with_reducible refine ldR rfl rfl FA.out ?_ ?_ ?_); rfl; exact row76) | ((with_reducible refine ldR rfl rfl FS.out ?_ ?_ ?_); rfl; exact row76))
  go_at_call 43
  have GR := Aside0.mk (Kd.R_below ER.out FW.out)
  have GS := Aside0.mk (Kd.R_below ES.out FW.out)
  have GB := Aside0.mk (EB.out.trans (FW.out.mono EB.out.size))
  refine (SameSecret_same r 0 0 A1 A2 c1 c2 ys _ (Kd.R_reads' GR.out).2.2 (Kd.R_reads' GS.out).2.2).mono ?_
  rintro e3 w3 ⟨rfl, hb3⟩
  have hee : (e != e) = false := by simp
  have H0 := Aside0.mk (blk_to F0.out hb3); have H1 := Aside0.mk (blk_to F1.out hb3); have HA := Aside0.mk (blk_to FA.out hb3); have HS := Aside0.mk (blk_to FS.out hb3)
  have hhs : W3.heap.size ≤ w3.heap.size := hb3.size
  have HB := Aside0.mk (GB.out.trans (hb3.mono GB.out.size))
  have HRa := Aside0.mk (Kd.R_below GR.out hb3)
  have HRb := Aside0.mk (Kd.R_below GS.out hb3)
  clear hb3 E0 E1 EA EB ER ES F0 F1 FA FS FW GR GS GB CR DR
  go_wp2_with fail
  clear hee
  go_loopg [11] ys.length (fun kq v w' => ∃ (i : Nat) (zs : List S83), v = .int .i64 (i : Int) ∧ Aside0 (i + kq = ys.length) ∧ Aside0 (w'.heap[w.heap.size]? = some (.cells (kc root) 26 (0, 0))) ∧ Aside0 (w'.heap[w.heap.size + 1]? = some (.cells #[.int .u8 a0, .int .i64 a1, .int .i64 a2, .int .u64 a3, .int .u64 a4, .int .u64 a5] 45 (0, 0))) ∧ Aside0 (w'.heap[w1.heap.size]? = some (.cells (sc r A1 ys.length c1 0 0) 76 (0, 0))) ∧ Aside0 (w'.heap[w2.heap.size]? = some (.cells (sc r A2 ys.length c2 0 0) 76 (0, 0))) ∧ Aside0 (Kd.R k83 83 w' W0.heap.size (fun k => W0.heap.size ≤ k ∧ k < w1.heap.size) (.slice A1 ys.length c1) zs) ∧ Aside0 (Kd.R k83 83 w' W2.heap.size (fun k => W2.heap.size ≤ k) (.slice A2 ys.length c2) ys) ∧ Aside0 (Below w.heap.size w w') ∧ Aside0 (w3.heap.size ≤ w'.heap.size))
  case atStart => exact ⟨0, ys, rfl, ⟨by omega⟩, H0, H1, HA, HS, HRa, HRb, HB, ⟨Nat.le_refl _⟩⟩
  case round =>
    obtain ⟨i, zs, rfl, HI, I0, I1, IA, IS, IRa, IRb, IB, IZ⟩ := hrel
    clear H0 H1 HA HS HRa HRb HB
    obtain ⟨hzl, -, -⟩ := Kd.R_reads' IRa.out
    have hyl : ys.length ≤ 9223372036854775807 := (Kd.R_reads' IRb.out).2.2.2.1
    have d1 := cat IA.out 1 (.slice A1 ys.length c1) rfl
    by_cases hi : i < ys.length
    · obtain ⟨g, cap, eg, hg1, -, -⟩ := Kd.R_form IRa.out (by omega)
      have hgk := IRa.out.1 g (by rw [eg]; simp [Value.ownBlock])
      simp only [Value.slice.injEq] at eg
      obtain ⟨ad, had⟩ : ∃ ad : Addr, ad = ⟨g, 0, none⟩ := ⟨_, rfl⟩
      have IN := Aside0.mk (R_node (show Kd.R k83 83 wr W0.heap.size (fun k => W0.heap.size ≤ k ∧ k < w1.heap.size) (.slice (some ⟨g, 0, none⟩) ys.length c1) zs by rw [← eg.1]; exact IRa.out) i hi)
      obtain ⟨x, hx⟩ := IN.out.1
      have ead : ad.add (i * 18) = ⟨g, i * 18, none⟩ := by rw [had, add_at]; simp
      have q0 : wr.cell? (ad.add (i * 18)) = some (.int .i64 x) := by rw [ead]; exact hx
      have f0 : wr.frozen? (ad.add (i * 18)) = false := by rw [ead]; exact IN.out.2.1
      have eA : A1 = some ad := by rw [eg.1, had]
      subst eA
      have HAD := Aside0.mk had; have EAD := Aside0.mk ead; have HGK := Aside0.mk hgk; have HI' := Aside0.mk hi
      have b2 : (i : Int) < (ys.length : Int) := by omega
      clear hx eg had ead hgk hg1 hi hzl
      go_wp2
      obtain ⟨gq, rfl⟩ : ∃ gq, gk = gq + 1 := ⟨gk - 1, by have := HI'.out; have := HI.out; omega⟩
      go_roundg gq
      case measure => omega
      case rel =>
        rw [EAD.out]
        have far : ∀ {j : Nat} {o : Obj} (z : Value), wr.heap[j]? = some o → j ≠ g → (wr.setCell ⟨g, i * 18, none⟩ z).heap[j]? = some o := fun z h hne => (Below.heap_setCell _ _ _ _ hne).trans h
        have h1 := HGK.out
        obtain ⟨zs', hz⟩ := IN.out.2.2 _
        refine ⟨i + 1, zs', by simp, ⟨by have := HI.out; omega⟩, ⟨far _ I0.out (by omega)⟩, ⟨far _ I1.out (by omega)⟩, ⟨far _ IA.out (by omega)⟩, ⟨far _ IS.out (by omega)⟩, ⟨by rw [HAD.out]; exact hz⟩, ⟨Kd.R_far IRb.out (p := ⟨g, i * 18, none⟩) (fun k hk => by show k ≠ g; omega) _⟩, ⟨IB.out.setCell (p := ⟨g, i * 18, none⟩) (by show w.heap.size ≤ g; omega) _⟩, ⟨by simp; exact IZ.out⟩⟩
    · have hi2 : i = ys.length := by have := HI.out; omega
      subst hi2
      have b2 : ¬ ((ys.length : Int) < (ys.length : Int)) := by omega
      clear hi HI hzl IRa
      go_wp2_with (first | ((with_reducible refine ldR rfl rfl I0.out ?_ ?_ ?_); rfl; exact row26) | ((with_reducible refine ldR rfl rfl I1.out ?_ ?_ ?_); rfl; exact row45))
      go_at_call 41
      refine (HP2.out _).mono ?_
      rintro e4 w4 ⟨A4, n4, c4, rfl, hr4, hb4⟩
      obtain ⟨hn4, -, -⟩ := Kd.R_reads' hr4
      subst hn4
      have JS := Aside0.mk (blk_to IS.out hb4); have JR := Aside0.mk hr4; have JRb := Aside0.mk (Kd.R_below IRb.out hb4)
      have JB := Aside0.mk (IB.out.trans (hb4.mono IB.out.size))
      have hjs : wr.heap.size ≤ w4.heap.size := hb4.size
      have hiz := IZ.out
      clear hb4 hr4 IS IRb IB I0 I1 IA d1
      go_wp2_with (first
        | (((with_reducible refine stR rfl rfl (newAt rfl) (sc r A4 ys.length c4 0 0) ?_ ?_ ?_ ?_ ?_ ?_); rfl; rfl; exact row76; rfl; rfl; intro W5 P3); have LS := Aside0.mk (P3.blk (blk_alloc JS.out _) (by omega)); have LA := Aside0.mk P3.at_; have LW := Aside0.mk (show Below w4.heap.size w4 W5 from P3.below ((Below.refl _ _).alloc (Nat.le_refl _) _) (Nat.le_refl _)); clear P3)
        | ((with_reducible refine ldR rfl rfl LA.out ?_ ?_ ?_); rfl; exact row76) | ((with_reducible refine ldR rfl rfl LS.out ?_ ?_ ?_); rfl; exact row76))
      go_at_call 43
      have MR := Aside0.mk (Kd.R_below JR.out LW.out)
      have MS := Aside0.mk (Kd.R_below JRb.out LW.out)
      have MB := Aside0.mk (JB.out.trans (LW.out.mono JB.out.size))
      refine (SameSecret_same r 0 0 A4 A2 c4 c2 ys _ (Kd.R_reads' MR.out).2.2 (Kd.R_reads' MS.out).2.2).mono ?_
      rintro e5 w5 ⟨rfl, hb5⟩
      go_wp2
      go_ret
      exact ⟨rfl, MB.out.trans (hb5.mono MB.out.size)⟩
end Go.Proofs.Ytafhimeoijmolaa.K
namespace Go.Proofs.Ytafhimeoijmolaa.O
open Go.RowKit Go.Proofs.Ytafhimeoijmolaa.K Go.Proofs.Ytafhimeoijmolaa.G Go.Proofs.YtafhimeoijmolaaW.PrintWords
theorem coverSecrets_walk (W : World) (root : S26) (hr : KOK root) (s : Sch) (_ : True) (u : Int) (_ : True) :
    Calls Try.prog 8 #[kv root, s.val, .int .i64 u] W fun e w' => e = .returned (.bool true) ∧ Below W.heap.size W w' :=
  K.secrets_calls root hr s.k s.d s.g s.p s.q s.r u W
end Go.Proofs.Ytafhimeoijmolaa.O
namespace Go.Proofs.Ytafhimeoijmolaa.O
open Go.ChangeShapes Go.WideShapes Go.ChangeAt Go.RowKit Go.Deep Go.Proofs.Ytafhimeoijmolaa.G Go.Proofs.Ytafhimeoijmolaa.K Go.Proofs.YtafhimeoijmolaaW.PrintWords
set_option linter.unusedVariables false
set_option linter.unusedSimpArgs false
section
variable {H : Type} {enc : TypeId × Value → H} {W : World} {base : Nat} {v : Value} {d : DataW H} {p : List MemPlace} {ts : List TypeId} {ds : List (DataW H)}
set_option maxRecDepth 100000 in
theorem arg3 (hsz : (DataW.weightsEach Try.prog ts ds).all (· ≤ reachBytes) = true) (hv : Value.okWide Try.prog W .any base 3 v) (h : DataW.Trod enc Try.prog W 0 (fun _ => true) true 3 v d p) (j : Nat) (h1 : ts[j]? = some 3) (h2 : ds[j]? = some d) :
    ∃ n : Int, v = .int .i64 n ∧ True := by
  obtain ⟨n, hn, -, -, -⟩ := open_int Try.underlying3 hv h
  exact ⟨n, hn, trivial⟩
end
end Go.Proofs.Ytafhimeoijmolaa.O
