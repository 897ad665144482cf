/- Texts of this claim, one behind the other, as far as they are used: KJ, KM, KS, KY, M8, N3, M5, M4, M6, KT, T1, T2, T3, M1, KN, M10, M11. -/
import Derived.Test.YtafhimeoijmolaaCoverKeysM2
import Derived.Test.YtafhimeoijmolaaCoverKeysM3
import Derived.Test.YtafhimeoijmolaaCoverKeysM4
import Derived.Test.YtafhimeoijmolaaCoverKeysM5
import Derived.Test.YtafhimeoijmolaaCoverKeysM10
import Derived.Test.YtafhimeoijmolaaCoverKeysM11
import Derived.Test.YtafhimeoijmolaaCoverKeysM13
import Derived.Test.YtafhimeoijmolaaCoverKeysM14
import Derived.Test.YtafhimeoijmolaaCoverKeysM15
import Derived.Test.YtafhimeoijmolaaCoverKeysM16
namespace Go.Proofs.Ytafhimeoijmolaa.K
open Go.RowKit  Go.Proofs.YtafhimeoijmolaaW.PrintWords Go.Proofs.YtafhimeoijmolaaW.PrintLast Go.Proofs.YtafhimeoijmolaaW.PrintMore Go.Proofs.Ytafhimeoijmolaa.G
set_option linter.unusedVariables false
set_option linter.unusedSimpArgs false
theorem ret_key {fn : Func} {g : Nat} {K : S26} {t : TypeId} {tmps : Array Value} {W : World} {p u : Tmp} {v : Value} (h : fn.results = [ResultVar.cell p 26, ResultVar.tmp u].toArray) (hp : tmps.getD p undef = .pointer (some ⟨g, 0, none⟩)) (hu : tmps.getD u undef = v) (hg : W.heap[g]? = some (.cells (kc K) t (0, 0))) :
    (results fn tmps).run Try.prog W = .ok (.tuple #[kv K, v]) W := by
  subst hu
  exact results_list (rs := [.cell p 26, .tmp u]) h (by simp) (.cell g t (kc K) (0, 0) _ hp hg Try.underlying26 rfl (by kernel_rfl) (.tmp .nil))
set_option maxHeartbeats 4000000 in
set_option maxRecDepth 100000 in
theorem SubsetKey_calls (root : S26) (a0 a1 a2 a3 a4 a5 v t k d s e : Int) (xs : List Int) (k0 : Nat) (h1 : cover_enter.f 70 a0 a1 a2 a3 a4 a5 [⟨v, t⟩] = some (k, d, s, e)) (hp : e = 0 → k ≠ 1 → t ≠ 0 → pathF k0 v t = some xs) (w : World) :
    Calls Try.prog 52 #[kv root, .agg #[.int .u8 a0, .int .i64 a1, .int .i64 a2, .int .u64 a3, .int .u64 a4, .int .u64 a5], .agg #[.int .i64 v, .int .i64 t]] w fun e' w' => e' = .returned (.tuple #[kv (if e = 0 then keyI k v t xs root else z26), .int .i64 e]) ∧ Below w.heap.size w w' := by
  obtain ⟨W0, hW0⟩ : ∃ W0, ((((w.alloc (.cells (kc root) 26)).alloc (.cells #[.int .u8 a0, .int .i64 a1, .int .i64 a2, .int .u64 a3, .int .u64 a4, .int .u64 a5] 45)).alloc (.cells #[.int .i64 v, .int .i64 t] 47)).alloc (.cells (kc z26) 26)) = W0 := ⟨_, rfl⟩
  have B0 := Aside0.mk (show W0.heap[w.heap.size]? = some (.cells (kc root) 26 (0, 0)) by rw [← hW0]; exact (blk_alloc (blk_alloc (blk_alloc (newAt rfl) _) _) _))
  have B1 := Aside0.mk (show W0.heap[w.heap.size + 1]? = some (.cells #[.int .u8 a0, .int .i64 a1, .int .i64 a2, .int .u64 a3, .int .u64 a4, .int .u64 a5] 45 (0, 0)) by rw [← hW0]; exact (blk_alloc (blk_alloc (newAt (by simp)) _) _))
  have B2 := Aside0.mk (show W0.heap[w.heap.size + 1 + 1]? = some (.cells #[.int .i64 v, .int .i64 t] 47 (0, 0)) by rw [← hW0]; exact (blk_alloc (newAt (by simp)) _))
  have B3 := Aside0.mk (show W0.heap[w.heap.size + 1 + 1 + 1]? = some (.cells (kc z26) 26 (0, 0)) by rw [← hW0]; exact (newAt (by simp)))
  have BB := Aside0.mk (show Below w.heap.size w W0 by rw [← hW0]; exact (((((Below.refl _ w).alloc (Nat.le_refl _) _).alloc (by simp) _).alloc (by simp; omega) _).alloc (by simp; omega) _))
  have BBs := Aside0.mk (show w.heap.size + 4 = W0.heap.size by rw [← hW0]; simp)
  have HW := Aside0.mk hW0
  clear hW0
  have H1 := Aside0.mk h1
  have HP := Aside0.mk hp
  obtain ⟨R, hR⟩ : ∃ R, R = (if e = 0 then keyI k v t xs root else z26) := ⟨_, rfl⟩
  rw [← hR]
  have HR := Aside0.mk hR
  clear hp hR h1
  go_enter Try.func52, Try.ntmps52
  go_wp2_with fail
  go_at_call 74
  refine (cover_enter.calls 70 a0 a1 a2 a3 a4 a5 _ _ [⟨v, t⟩] k d s e _ (C_one47 (t := 47) (m := (0, 0)) ?c1) (Nat.le_refl _) H1.out).mono ?_
  case c1 => exact newAt (by simp)
  have e0 := HW.out
  rintro e1 w1 ⟨rfl, hb1⟩
  have hb1' : Below (W0.alloc (.cells #[.int .i64 v, .int .i64 t] 47)).heap.size (W0.alloc (.cells #[.int .i64 v, .int .i64 t] 47)) w1 := by rw [← e0]; exact hb1
  have C0 := Aside0.mk (blk_to (blk_alloc B0.out _) hb1'); have C2 := Aside0.mk (blk_to (blk_alloc B2.out _) hb1'); have C3 := Aside0.mk (blk_to (blk_alloc B3.out _) hb1')
  have CB := Aside0.mk (((BB.out.alloc BB.out.size _).trans (hb1'.mono (by have := BB.out.size; simp; omega))) : Below w.heap.size w w1)
  have CS := Aside0.mk (show w.heap.size + 4 < w1.heap.size by have := hb1'.size; have := BBs.out; simp at *; omega)
  clear hb1 hb1' e0 B0 B1 B2 B3 BB BBs HW
  by_cases he : e = 0
  · have E1 := Aside0.mk (show R = keyI k v t xs root from HR.out.trans (if_pos he))
    have HE := Aside0.mk he
    have b0 : (e != 0) = false := by simp [he]
    have HP2 := Aside0.mk (HP.out he)
    clear he HP
    go_wp2_with (first
      | ((with_reducible refine ldR rfl rfl (blk_alloc C0.out _) ?_ ?_ ?_); rfl; exact row26)
      | ((with_reducible refine ldR rfl rfl (blk_alloc C2.out _) ?_ ?_ ?_); rfl; exact row47)
      | (go_at_call 88; refine (ckey_calls k d s v t root xs k0 HP2.out _).mono ?_; rintro e2 w2 ⟨rfl, hb2⟩; obtain ⟨K, hK⟩ : ∃ K, K = keyI k v t xs root := ⟨_, rfl⟩; rw [← hK]; have HK := Aside0.mk hK; have HB := Aside0.mk hb2; clear hK hb2)
      | ((with_reducible refine stR rfl rfl (blk_to (blk_alloc C3.out _) HB.out) (kc K) ?_ ?_ ?_ ?_ ?_ ?_); rfl; rfl; exact row26; rfl; rfl; intro W2 P1))
    refine bodyPost_ret (ret_key rfl rfl rfl P1.at_) rfl ?_
    exact ⟨by rw [E1.out, HK.out, HE.out]; rfl, P1.below ((CB.out.alloc CB.out.size _).trans (HB.out.mono (by have := CS.out; simp; omega))) (by omega)⟩
  · have E1 := Aside0.mk (show R = z26 from HR.out.trans (if_neg he))
    have b0 : (e != 0) = true := by simp [he]
    clear he HP
    go_wp2_with (first
      | ((with_reducible refine stR rfl rfl (blk_alloc C3.out _) (kc z26) ?_ ?_ ?_ ?_ ?_ ?_); rfl; rfl; exact row26; rfl; rfl; intro W2 P1))
    refine bodyPost_ret (ret_key rfl rfl rfl P1.at_) rfl ?_
    exact ⟨by rw [E1.out]; rfl, P1.below (CB.out.alloc CB.out.size _) (by omega)⟩
end Go.Proofs.Ytafhimeoijmolaa.K
namespace Go.Proofs.Ytafhimeoijmolaa.K
open Go.RowKit  Go.Proofs.YtafhimeoijmolaaW.PrintWords Go.Proofs.YtafhimeoijmolaaW.PrintLast Go.Proofs.YtafhimeoijmolaaW.PrintMore Go.Proofs.Ytafhimeoijmolaa.G
set_option linter.unusedVariables false
set_option linter.unusedSimpArgs false
abbrev sv (r : Int) (A : Option Addr) (n c : Nat) (p q : Int) : Value := .agg #[.int .i64 r, .slice A n c, .int .u64 p, .int .u64 q]
abbrev sc (r : Int) (A : Option Addr) (n c : Nat) (p q : Int) : Array Value := #[.int .i64 r, .slice A n c, .int .u64 p, .int .u64 q]
def findF (a v t : Int) : List S83 → Option (S26 × Bool)
  | [] => some (z26, false)
  | l :: ls => (leadsF a l.f0 l.f1 v t).bind fun r => if r = true then (if a = 1 ∨ t = 0 then some (l.f2, true) else (pathF 9 l.f1 t).map fun xs => (derK (descK l.f2 xs) 33 0, true)) else findF a v t ls
theorem k83_cs {w : World} {l : S83} (c : List Value) (h : k83.K w l c) : c = (lc l.f0 l.f1 l.f2).toList := k83_open h
theorem drop_cons {α : Type} (l : List α) (i : Nat) (h : i < l.length) (z : α) : l.drop i = l.getD i z :: l.drop (i + 1) := by
  rw [List.drop_eq_getElem_cons h]; simp [h]
set_option maxHeartbeats 4000000 in
set_option maxRecDepth 100000 in
theorem find_calls (a b c rcv p q : Int) (A : Option Addr) (cap : Nat) (ls : List S83) (v t : Int) (r : S26 × Bool) (w : World) (hC : Kd.C k83 w A ls.length ls) (h : findF a v t ls = some r) :
    Calls Try.prog 107 #[.agg #[.int .u8 a, .int .i64 b, .int .i64 c], sv rcv A ls.length cap p q, .agg #[.int .i64 v, .int .i64 t]] w fun e w' => e = .returned (.tuple #[kv r.1, .bool r.2]) ∧ Below w.heap.size w w' := by
  obtain ⟨W0, hW0⟩ : ∃ W0, ((((w.alloc (.cells #[.int .u8 a, .int .i64 b, .int .i64 c] 134)).alloc (.cells (sc rcv A ls.length cap p q) 76)).alloc (.cells #[.int .i64 v, .int .i64 t] 47)).alloc (.cells (kc z26) 26)) = W0 := ⟨_, rfl⟩
  have B0 := Aside0.mk (show W0.heap[w.heap.size]? = some (.cells #[.int .u8 a, .int .i64 b, .int .i64 c] 134 (0, 0)) by rw [← hW0]; exact (blk_alloc (blk_alloc (blk_alloc (newAt rfl) _) _) _))
  have B1 := Aside0.mk (show W0.heap[w.heap.size + 1]? = some (.cells (sc rcv A ls.length cap p q) 76 (0, 0)) by rw [← hW0]; exact (blk_alloc (blk_alloc (newAt (by simp)) _) _))
  have B2 := Aside0.mk (show W0.heap[w.heap.size + 1 + 1]? = some (.cells #[.int .i64 v, .int .i64 t] 47 (0, 0)) by rw [← hW0]; exact (blk_alloc (newAt (by simp)) _))
  have B3 := Aside0.mk (show W0.heap[w.heap.size + 1 + 1 + 1]? = some (.cells (kc z26) 26 (0, 0)) by rw [← hW0]; exact (newAt (by simp)))
  have BB := Aside0.mk (show Below w.heap.size w W0 by rw [← hW0]; exact (((((Below.refl _ w).alloc (Nat.le_refl _) _).alloc (by simp) _).alloc (by simp; omega) _).alloc (by simp; omega) _))
  have BBs := Aside0.mk (show w.heap.size + 4 = W0.heap.size by rw [← hW0]; simp)
  have HW := Aside0.mk hW0
  clear hW0
  have hlen : ls.length ≤ 9223372036854775807 := hC.2.1
  have H0 := Aside0.mk h
  have HC := Aside0.mk (show Kd.C k83 W0 A ls.length ls by rw [← HW.out]; exact Kd.C_below hC (((((Below.refl _ w).alloc (Nat.le_refl _) _).alloc (by simp) _).alloc (by simp; omega) _).alloc (by simp; omega) _))
  have HL := Aside0.mk hlen
  clear hC h
  go_enter Try.func107, Try.ntmps107
  go_wp2
  show Code.wp _ _ _ _ ((((w.alloc (.cells #[.int .u8 a, .int .i64 b, .int .i64 c] 134)).alloc (.cells (sc rcv A ls.length cap p q) 76)).alloc (.cells #[.int .i64 v, .int .i64 t] 47)).alloc (.cells (kc z26) 26))
  rw [HW.out]
  go_loopg [13] ls.length (fun kq v13 w' => ∃ i : Nat, v13 = .int .i64 (i : Int) ∧ Aside0 (i + kq = ls.length) ∧ Aside0 (findF a v t (ls.drop i) = some r) ∧ Aside0 (Below W0.heap.size W0 w'))
  case atStart => exact ⟨0, rfl, ⟨by omega⟩, ⟨H0.out⟩, ⟨Below.refl _ _⟩⟩
  case round =>
    obtain ⟨i, rfl, HI, HF, HB⟩ := hrel
    have C0 := Aside0.mk (blk_to B0.out HB.out); have C2 := Aside0.mk (blk_to B2.out HB.out); have C3 := Aside0.mk (blk_to B3.out HB.out)
    have CB := Aside0.mk (BB.out.trans (HB.out.mono BB.out.size))
    have CC := Aside0.mk (Kd.C_below HC.out HB.out)
    have CS := Aside0.mk (show w.heap.size + 4 ≤ wr.heap.size by have := HB.out.size; have := BBs.out; omega)
    have HB0 := HB
    clear HB B0 B1 B2 B3 BB BBs HW H0 HC hlen
    by_cases hi : i < ls.length
    · have HI' := Aside0.mk hi
      obtain ⟨l, hl⟩ : ∃ l, l = ls.getD i z83 := ⟨_, rfl⟩
      have HLl := Aside0.mk hl
      have hf := HF.out
      rw [drop_cons ls i hi z83, ← hl] at hf
      simp only [findF] at hf
      obtain ⟨q1, hq1, hf⟩ := Option.bind_eq_some_iff.mp hf
      have HQ := Aside0.mk hq1
      have HF2 := Aside0.mk hf
      obtain ⟨ad, cc, rfl, -⟩ := Kd.C_get CC.out z83 (i : Int) (by omega) (by omega)
      have b1 : (i : Int) < (ls.length : Int) := by omega
      have b2 : (ls.length : Int) ≤ 9223372036854775807 := by have := HL.out; omega
      clear hl hf hq1 hi HF
      have hcs : w.heap.size + 4 ≤ wr.heap.size := CS.out
      go_wp2_with (first
        | ((with_reducible refine ldC rfl rfl CC.out i z83 (lc l.f0 l.f1 l.f2).toList 18 ?_ ?_ ?_ ?_ ?_ ?_); rfl; exact HI'.out; (rw [← HLl.out]; exact k83_cs); exact row83; rfl)
        | (((with_reducible refine stR rfl rfl (newAt rfl) (lc l.f0 l.f1 l.f2) ?_ ?_ ?_ ?_ ?_ ?_); rfl; rfl; exact row83; rfl; rfl; intro W2 P1); have D0 := Aside0.mk (P1.blk (blk_alloc C0.out _) (by omega)); have D2 := Aside0.mk (P1.blk (blk_alloc C2.out _) (by omega)); have D3 := Aside0.mk (P1.blk (blk_alloc C3.out _) (by omega)); have D1 := Aside0.mk P1.at_; have DB := Aside0.mk (P1.below (CB.out.alloc CB.out.size _) (by omega)); have DW := Aside0.mk (show Below wr.heap.size wr W2 from P1.below ((Below.refl _ wr).alloc (Nat.le_refl _) _) (Nat.le_refl _)); clear P1)
        | ((with_reducible refine ldR rfl rfl D0.out ?_ ?_ ?_); rfl; exact row134)
        | ((with_reducible refine ldR rfl rfl D1.out ?_ ?_ ?_); rfl; exact row83)
        | ((with_reducible refine ldR rfl rfl D2.out ?_ ?_ ?_); rfl; exact row47))
      go_at_call 97
      refine (leads_calls a b c l.f0 l.f1 l.f2 v t q1 HQ.out _).mono ?_
      rintro e1 w1 ⟨rfl, hb1⟩
      have E0 := Aside0.mk (blk_to D0.out hb1)
      have E1 := Aside0.mk (blk_to D1.out hb1)
      have E2 := Aside0.mk (blk_to D2.out hb1)
      have E3 := Aside0.mk (blk_to D3.out hb1)
      have EB := Aside0.mk (DB.out.trans (hb1.mono DB.out.size))
      have EW := Aside0.mk (DW.out.trans (hb1.mono DW.out.size))
      clear hb1
      cases q1
      · have hf := HF2.out
        simp only [Bool.false_eq_true, if_false] at hf
        have HF3 := Aside0.mk hf
        clear hf
        go_wp2
        obtain ⟨gq, rfl⟩ : ∃ gq, gk = gq + 1 := ⟨gk - 1, by have := HI'.out; have := HI.out; omega⟩
        go_roundg gq
        case measure => omega
        case rel => exact ⟨i + 1, by simp, ⟨by have := HI.out; omega⟩, ⟨HF3.out⟩, ⟨HB0.out.trans (EW.out.mono HB0.out.size)⟩⟩
      · have hf := HF2.out
        simp only [if_true] at hf
        have a0 := cat E0.out 0 (.int .u8 a) rfl
        have a1 := cat E2.out 1 (.int .i64 t) rfl
        have a2 := cat E1.out 1 (.int .i64 l.f1) rfl
        by_cases hd : a = 1 ∨ t = 0
        · rw [if_pos hd] at hf
          have HR := Aside0.mk (Option.some.inj hf).symm
          have fin : ∀ (b1 : (a == 1) = true ∨ ((a == 1) = false ∧ (t == 0) = true)), True := fun _ => trivial
          by_cases ha : a = 1
          · have b3 : (a == 1) = true := beq_iff_eq.mpr ha
            clear hf hd ha fin
            go_wp2_with (first | ((with_reducible refine ldM rfl rfl E1.out 2 (kc l.f2) ?_ ?_ ?_ ?_); rfl; exact row26; rfl) | ((with_reducible refine stR rfl rfl E3.out (kc l.f2) ?_ ?_ ?_ ?_ ?_ ?_); rfl; rfl; exact row26; rfl; rfl; intro W3 P1))
            refine bodyPost_ret (ret_key rfl rfl rfl P1.at_) rfl ?_
            exact ⟨by rw [HR.out]; rfl, P1.below EB.out (by omega)⟩
          · have b3 : (a == 1) = false := beq_eq_false_iff_ne.mpr ha
            have b4 : (t == 0) = true := beq_iff_eq.mpr (hd.resolve_left ha)
            clear hf hd ha fin
            go_wp2_with (first | ((with_reducible refine ldM rfl rfl E1.out 2 (kc l.f2) ?_ ?_ ?_ ?_); rfl; exact row26; rfl) | ((with_reducible refine stR rfl rfl E3.out (kc l.f2) ?_ ?_ ?_ ?_ ?_ ?_); rfl; rfl; exact row26; rfl; rfl; intro W3 P1))
            refine bodyPost_ret (ret_key rfl rfl rfl P1.at_) rfl ?_
            exact ⟨by rw [HR.out]; rfl, P1.below EB.out (by omega)⟩
        · rw [if_neg hd] at hf
          obtain ⟨xs, hx, hr⟩ := Option.map_eq_some_iff.mp hf
          have HR := Aside0.mk hr.symm
          have HX := Aside0.mk hx
          have b3 : (a == 1) = false := beq_eq_false_iff_ne.mpr (fun e => hd (.inl e))
          have b4 : (t == 0) = false := beq_eq_false_iff_ne.mpr (fun e => hd (.inr e))
          clear hf hd hx hr
          go_wp2_with (first
            | ((with_reducible refine ldM rfl rfl E1.out 2 (kc l.f2) ?_ ?_ ?_ ?_); rfl; exact row26; rfl)
            | (go_at_call 93; refine (descend_calls l.f2 l.f1 t xs 9 HX.out _).mono ?_; rintro e2 w2 ⟨rfl, hb2⟩; obtain ⟨K2, hK⟩ : ∃ K2, K2 = descK l.f2 xs := ⟨_, rfl⟩; rw [← hK]; have HK2 := Aside0.mk hK; have HB2 := Aside0.mk hb2; clear hK hb2)
            | (go_at_call 135; refine (middle_calls K2 _).mono ?_; rintro e3 w3 ⟨rfl, hb3⟩; obtain ⟨K3, hK⟩ : ∃ K3, K3 = derK K2 33 0 := ⟨_, rfl⟩; rw [← hK]; have HK3 := Aside0.mk hK; have HB3 := Aside0.mk hb3; clear hK hb3)
            | ((with_reducible refine stR rfl rfl (blk_to (blk_to E3.out HB2.out) HB3.out) (kc K3) ?_ ?_ ?_ ?_ ?_ ?_); rfl; rfl; exact row26; rfl; rfl; intro W3 P1))
          refine bodyPost_ret (ret_key rfl rfl rfl P1.at_) rfl ?_
          have hb2 : Below w.heap.size w w2 := EB.out.trans (HB2.out.mono EB.out.size)
          exact ⟨by rw [HR.out, HK3.out, HK2.out]; rfl, P1.below (hb2.trans (HB3.out.mono hb2.size)) (by omega)⟩
    · have hi2 : i = ls.length := by have := HI.out; omega
      subst hi2
      have hf := HF.out
      rw [List.drop_length] at hf
      simp only [findF, Option.some.injEq] at hf
      have HR := Aside0.mk hf.symm
      clear hf HF
      go_wp2_with (first | ((with_reducible refine stR rfl rfl C3.out (kc z26) ?_ ?_ ?_ ?_ ?_ ?_); rfl; rfl; exact row26; rfl; rfl; intro W3 P1))
      refine bodyPost_ret (ret_key rfl rfl rfl P1.at_) rfl ?_
      exact ⟨by rw [HR.out]; rfl, P1.below CB.out (by omega)⟩
end Go.Proofs.Ytafhimeoijmolaa.K
namespace Go.Proofs.Ytafhimeoijmolaa.K
open Go.RowKit  Go.Proofs.YtafhimeoijmolaaW.PrintWords Go.Proofs.YtafhimeoijmolaaW.PrintLast Go.Proofs.YtafhimeoijmolaaW.PrintMore Go.Proofs.Ytafhimeoijmolaa.G
set_option linter.unusedVariables false
set_option linter.unusedSimpArgs false
theorem k47_cs {w : World} {l : S47} (c : List Value) (h : k47.K w l c) : c = [.int .i64 l.f0, .int .i64 l.f1] := k47_open h
end Go.Proofs.Ytafhimeoijmolaa.K
namespace Go.Proofs.Ytafhimeoijmolaa.K
open Go.RowKit Go.Shelf Go.Proofs.Ytafhimeoijmolaa.R9 Go.Proofs.YtafhimeoijmolaaW.PrintWords Go.Proofs.YtafhimeoijmolaaW.PrintLast Go.Proofs.YtafhimeoijmolaaW.PrintMore Go.Proofs.Ytafhimeoijmolaa.G
set_option linter.unusedVariables false
set_option linter.unusedSimpArgs false
attribute [local go_sem] Oper.semAt_some
theorem C_nil' {α : Type} (d : Kd α) (w : World) : Kd.C d w none 0 ([] : List α) := ⟨rfl, by omega, fun h => absurd h (by omega)⟩
end Go.Proofs.Ytafhimeoijmolaa.K
namespace Go.Proofs.Ytafhimeoijmolaa.K
open Go.RowKit  Go.Proofs.YtafhimeoijmolaaW.PrintWords Go.Proofs.YtafhimeoijmolaaW.PrintLast Go.Proofs.YtafhimeoijmolaaW.PrintMore Go.Proofs.Ytafhimeoijmolaa.G
set_option linter.unusedVariables false
set_option linter.unusedSimpArgs false
theorem ret_one {fn : Func} {g : Nat} {cs : Array Value} {ty : TypeId} {tmps : Array Value} {W : World} {p : Tmp} (hT : RowTy ty cs.size) (h : fn.results = #[ResultVar.cell p ty]) (hp : tmps.getD p undef = .pointer (some ⟨g, 0, none⟩)) (hg : W.heap[g]? = some (.cells cs ty (0, 0))) :
    (results fn tmps).run Try.prog W = .ok (.agg cs) W := by
  obtain ⟨⟨d, h1, h2⟩, h3⟩ := hT
  exact results_cell_row h _ _ _ ty _ (0, 0) _ hp hg h1 (by cases d <;> first | rfl | cases h2) h3
set_option maxHeartbeats 4000000 in
set_option maxRecDepth 100000 in
theorem TwinSecret_calls (r p q : Int) (A : Option Addr) (cap : Nat) (ls : List S83) (w : World) (hC : Kd.C k83 w A ls.length ls) (hlb : ls.length * 32 ≤ 140737488351232) :
    Calls Try.prog 49 #[sv r A ls.length cap p q] w fun e' w' => ∃ A' c', e' = .returned (sv r A' ls.length c' p q) ∧ Kd.R k83 83 w' w.heap.size (fun _ => True) (.slice A' ls.length c') ls ∧ Below w.heap.size w w' := by
  obtain ⟨W0, hW0⟩ : ∃ W0, ((w.alloc (.cells (sc r A ls.length cap p q) 76)).alloc (.cells (sc 0 none 0 0 0 0) 76)) = W0 := ⟨_, rfl⟩
  have B0 := Aside0.mk (show W0.heap[w.heap.size]? = some (.cells (sc r A ls.length cap p q) 76 (0, 0)) by rw [← hW0]; exact (blk_alloc (newAt rfl) _))
  have B1 := Aside0.mk (show W0.heap[w.heap.size + 1]? = some (.cells (sc 0 none 0 0 0 0) 76 (0, 0)) by rw [← hW0]; exact (newAt (by simp)))
  have BB := Aside0.mk (show Below w.heap.size w W0 by rw [← hW0]; exact (((Below.refl _ w).alloc (Nat.le_refl _) _).alloc (by simp) _))
  have BBs := Aside0.mk (show w.heap.size + 2 = W0.heap.size by rw [← hW0]; simp)
  have HW := Aside0.mk hW0
  clear hW0
  have HC := Aside0.mk (Kd.C_below hC BB.out)
  have hsz := BBs.out
  clear hC
  go_enter Try.func49, Try.ntmps49
  go_upto_region 1 with (fail)
  show Code.wp _ _ _ _ ((w.alloc (.cells (sc r A ls.length cap p q) 76)).alloc (.cells (sc 0 none 0 0 0 0) 76))
  rw [HW.out]
  have c1 := cat B0.out 1 (.slice A ls.length cap) rfl
  go_wp2_with (first
    | (at_builtin; refine Kd.R_append_rows k83 (w0 := W0) W0.heap.size rfl _ _ 72 83 (.agg (lc 0 0 z26)) 32 rfl Try.underlying72 info83 rfl (by decide) (by decide) (.slice none 0 0) [] ls A ls.length cap (fun k => W0.heap.size ≤ k) (fun _ => False) rfl rfl (Kd.R_nil _ _ _ _ _) HC.out (fun x c h => by rw [k83_open h]; exact k83_mkM _ _ _ x) (fun _ h => h.elim) (fun _ h => h) (Below.refl _ _) (Nat.le_refl _) (by simp; omega) ?_; intro v1 w1 hR1 hB1 hg1 hat1; rw [List.nil_append] at hR1; obtain ⟨A', n', c', e1⟩ : ∃ A n c, v1 = .slice A n c := (by obtain ⟨A, m, h⟩ := Kd.R_slice hR1; exact ⟨A, _, m, h⟩); subst e1; obtain ⟨hn, -, -⟩ := Kd.R_reads' hR1; subst hn; have R1 := Aside0.mk hR1; have B4 := Aside0.mk hB1; have C0 := Aside0.mk (blk_to B0.out hB1); have C1 := Aside0.mk (blk_to B1.out hB1); have d1 := cat C0.out 1 (.slice A ls.length cap) rfl; have fr := blk_frozen C0.out 1; clear hR1 hB1 hg1 hat1)
    | ((with_reducible refine ldR rfl rfl (blk_put C0.out 1 (.slice A' ls.length c') rfl) ?_ ?_ ?_); rfl; exact row76)
    | (((with_reducible refine stR rfl rfl ((Below.heap_setCell _ _ _ _ (show w.heap.size + 1 ≠ w.heap.size by omega)).trans C1.out) (sc r A' ls.length c' p q) ?_ ?_ ?_ ?_ ?_ ?_); rfl; rfl; exact row76; rfl; rfl; intro W3 P1)))
  refine bodyPost_ret (ret_one row76 rfl rfl P1.at_) rfl ?_
  refine ⟨A', c', rfl, ?_, P1.below (((BB.out.trans (B4.out.mono BB.out.size))).setCell (p := ⟨w.heap.size, 1, none⟩) (Nat.le_refl _) _) (by omega)⟩
  have h1 := Kd.R_far R1.out (p := ⟨w.heap.size, 1, none⟩) (fun j hj => by show j ≠ w.heap.size; omega) (.slice A' ls.length c')
  have h2 := Kd.R_step (w1 := W3) h1 (fun j hj _ => P1.oth j (by omega))
  exact Kd.R_mono (Kd.R_lower h2 (by omega)) (fun _ _ => trivial)
theorem region_join {id : Nat} {ops : Array Oper} {a : Act} {W : World} {Q : Exit → Act → World → Prop} (Qf : Act → Act → World → Prop) (h1 : (Code.region id ops true).wp Try.prog (fun e a' w' => e = .normal ∧ Qf a a' w') a W) (h2 : ∀ a' w', Qf a a' w' → Q .normal a' w') : (Code.region id ops true).wp Try.prog Q a W :=
  Code.wp_mono (fun e a' w' h => by obtain ⟨rfl, h⟩ := h; exact h2 a' w' h) h1
theorem nf_join {Qf : Act → World → Prop} : NoFrame (fun e a' w' => e = .normal ∧ Qf a' w') := fun c a a' w _ h => by cases h.1
end Go.Proofs.Ytafhimeoijmolaa.K
namespace Go.Proofs.Ytafhimeoijmolaa.K
open Go.RowKit  Go.Proofs.YtafhimeoijmolaaW.PrintWords Go.Proofs.YtafhimeoijmolaaW.PrintLast Go.Proofs.YtafhimeoijmolaaW.PrintMore Go.Proofs.Ytafhimeoijmolaa.G
set_option linter.unusedVariables false
set_option linter.unusedSimpArgs false
attribute [local go_sem high] eqA26 eqA83 eqA74
set_option maxHeartbeats 4000000 in
set_option maxRecDepth 100000 in
theorem SameSecret_same (u p q : Int) (A1 A2 : Option Addr) (cp1 cp2 : Nat) (xs : List S83) (w : World) (hC1 : Kd.C k83 w A1 xs.length xs) (hC2 : Kd.C k83 w A2 xs.length xs) :
    Calls Try.prog 43 #[sv u A1 xs.length cp1 p q, sv u A2 xs.length cp2 p q] w fun e' w' => e' = .returned (.bool true) ∧ Below w.heap.size w w' := by
  obtain ⟨W0, hW0⟩ : ∃ W0, ((w.alloc (.cells (sc u A1 xs.length cp1 p q) 76)).alloc (.cells (sc u A2 xs.length cp2 p q) 76)) = W0 := ⟨_, rfl⟩
  have B0 := Aside0.mk (show W0.heap[w.heap.size]? = some (.cells (sc u A1 xs.length cp1 p q) 76 (0, 0)) by rw [← hW0]; exact (blk_alloc (newAt rfl) _))
  have B1 := Aside0.mk (show W0.heap[w.heap.size + 1]? = some (.cells (sc u A2 xs.length cp2 p q) 76 (0, 0)) by rw [← hW0]; exact (newAt (by simp)))
  have BB := Aside0.mk (show Below w.heap.size w W0 by rw [← hW0]; exact (((Below.refl _ w).alloc (Nat.le_refl _) _).alloc (by simp) _))
  have BBs := Aside0.mk (show w.heap.size + 2 = W0.heap.size by rw [← hW0]; simp)
  have HW := Aside0.mk hW0
  clear hW0
  have hl1 : xs.length ≤ 9223372036854775807 := hC1.2.1
  have HC1 := Aside0.mk (Kd.C_below hC1 BB.out); have HC2 := Aside0.mk (Kd.C_below hC2 BB.out)
  clear hC1 hC2
  go_enter Try.func43, Try.ntmps43
  go_upto_region 1 with (fail)
  show Code.wp _ _ _ _ ((w.alloc (.cells (sc u A1 xs.length cp1 p q) 76)).alloc (.cells (sc u A2 xs.length cp2 p q) 76))
  rw [HW.out]
  have c0 := cat B0.out 0 (.int .i64 u) rfl; have c1 := cat B0.out 1 (.slice A1 xs.length cp1) rfl; have c2 := cat B0.out 2 (.int .u64 p) rfl; have c3 := cat B0.out 3 (.int .u64 q) rfl
  have d0 := cat B1.out 0 (.int .i64 u) rfl; have d1 := cat B1.out 1 (.slice A2 xs.length cp2) rfl; have d2 := cat B1.out 2 (.int .u64 p) rfl; have d3 := cat B1.out 3 (.int .u64 q) rfl
  go_wp2_with fail
  clear c0 c1 c2 c3 d0 d1 d2 d3
  go_loopg [5] xs.length (fun kq vv w' => ∃ (i : Nat), vv = .int .i64 (i : Int) ∧ Aside0 (i + kq = xs.length) ∧ Aside0 (Below W0.heap.size W0 w'))
  case atStart => exact ⟨0, rfl, ⟨by omega⟩, ⟨Below.refl _ _⟩⟩
  case round =>
    obtain ⟨i, rfl, HI, HB⟩ := hrel
    have D0 := Aside0.mk (blk_to B0.out HB.out); have D1 := Aside0.mk (blk_to B1.out HB.out)
    have E1 := Aside0.mk (Kd.C_below HC1.out HB.out); have E2 := Aside0.mk (Kd.C_below HC2.out HB.out)
    have d0 := cat D0.out 1 (.slice A1 xs.length cp1) rfl
    have d1 := cat D1.out 1 (.slice A2 xs.length cp2) rfl
    by_cases hi : i < xs.length
    · have HI' := Aside0.mk hi
      obtain ⟨x, hx⟩ : ∃ x, x = xs.getD i z83 := ⟨_, rfl⟩
      have HX := Aside0.mk hx
      obtain ⟨ad1, cc, rfl, -⟩ := Kd.C_get E1.out z83 (i : Int) (by omega) (by omega)
      obtain ⟨ad2, cc2, rfl, -⟩ := Kd.C_get E2.out z83 (i : Int) (by omega) (by omega)
      have b2 : (i : Int) < (xs.length : Int) := by omega
      clear hx hi
      go_wp2_with fail
      refine beginB none 99 11 rfl (by repeat (first | exact nf_body | refine nf_then ?_ | refine nf_block ?_)) (fun NF S0 => ?_)
      refine takeY 0 34 (.pointer (some ⟨w.heap.size, 1, none⟩)) rfl (by kernel_rfl) (by kernel_rfl) (by kernel_rfl) (by kernel_rfl) rfl rfl NF S0 (fun w' hw' => by go_simp) ?_; (try simp only [Act.put, List.setIfInBounds_toArray, List.set_cons_zero, List.set_cons_succ])
      refine takeY 1 35 (.slice (some ad1) xs.length cp1) rfl (by kernel_rfl) (by kernel_rfl) (by kernel_rfl) (by kernel_rfl) rfl rfl NF S0 (fun w' hw' => by have c := cat (hw'.at_ D0.out (by simp)) 1 _ rfl; go_simp) ?_; (try simp only [Act.put, List.setIfInBounds_toArray, List.set_cons_zero, List.set_cons_succ])
      refine takeY 2 36 (.int .i64 i) rfl (by kernel_rfl) (by kernel_rfl) (by kernel_rfl) (by kernel_rfl) rfl rfl NF S0 (fun w' hw' => by go_simp) ?_; (try simp only [Act.put, List.setIfInBounds_toArray, List.set_cons_zero, List.set_cons_succ])
      refine takeY 3 37 (.pointer (some (ad1.add (i * 18)))) rfl (by kernel_rfl) (by kernel_rfl) (by kernel_rfl) (by kernel_rfl) rfl rfl NF S0 (fun w' hw' => by go_simp) ?_; (try simp only [Act.put, List.setIfInBounds_toArray, List.set_cons_zero, List.set_cons_succ])
      refine takeC 4 38 rfl (by kernel_rfl) (by kernel_rfl) (by kernel_rfl) (by kernel_rfl) rfl rfl rfl E1.out (by simp) (fun _ _ _ h => h) i z83 (lc x.f0 x.f1 x.f2).toList 18 HI'.out (fun _ c h => by rw [← HX.out] at h; exact k83_cs c h) NF S0 rfl row83 rfl ?_; (try simp only [Act.put, List.setIfInBounds_toArray, List.set_cons_zero, List.set_cons_succ])
      refine takeY 5 39 (.pointer (some ⟨w.heap.size + 1, 1, none⟩)) rfl (by kernel_rfl) (by kernel_rfl) (by kernel_rfl) (by kernel_rfl) rfl rfl NF S0 (fun w' hw' => by go_simp) ?_; (try simp only [Act.put, List.setIfInBounds_toArray, List.set_cons_zero, List.set_cons_succ])
      refine takeY 6 40 (.slice (some ad2) xs.length cp2) rfl (by kernel_rfl) (by kernel_rfl) (by kernel_rfl) (by kernel_rfl) rfl rfl NF S0 (fun w' hw' => by have c := cat (hw'.at_ D1.out (by simp)) 1 _ rfl; go_simp) ?_; (try simp only [Act.put, List.setIfInBounds_toArray, List.set_cons_zero, List.set_cons_succ])
      refine takeY 7 41 (.int .i64 i) rfl (by kernel_rfl) (by kernel_rfl) (by kernel_rfl) (by kernel_rfl) rfl rfl NF S0 (fun w' hw' => by go_simp) ?_; (try simp only [Act.put, List.setIfInBounds_toArray, List.set_cons_zero, List.set_cons_succ])
      refine takeY 8 42 (.pointer (some (ad2.add (i * 18)))) rfl (by kernel_rfl) (by kernel_rfl) (by kernel_rfl) (by kernel_rfl) rfl rfl NF S0 (fun w' hw' => by go_simp) ?_; (try simp only [Act.put, List.setIfInBounds_toArray, List.set_cons_zero, List.set_cons_succ])
      refine takeC 9 43 rfl (by kernel_rfl) (by kernel_rfl) (by kernel_rfl) (by kernel_rfl) rfl rfl rfl E2.out (by simp) (fun _ _ _ h => h) i z83 (lc x.f0 x.f1 x.f2).toList 18 HI'.out (fun _ c h => by rw [← HX.out] at h; exact k83_cs c h) NF S0 rfl row83 rfl ?_; (try simp only [Act.put, List.setIfInBounds_toArray, List.set_cons_zero, List.set_cons_succ])
      refine takeY 10 44 (.bool false) rfl (by kernel_rfl) (by kernel_rfl) (by kernel_rfl) (by kernel_rfl) rfl rfl NF S0 (fun w' hw' => by go_simp) ?_; (try simp only [Act.put, List.setIfInBounds_toArray, List.set_cons_zero, List.set_cons_succ])
      refine doneM (by kernel_rfl) ?_ _
      clear S0 NF
      go_wp2
      obtain ⟨gq, rfl⟩ : ∃ gq, gk = gq + 1 := ⟨gk - 1, by have := HI'.out; have := HI.out; omega⟩
      go_roundg gq
      case measure => omega
      case rel => exact ⟨i + 1, by simp, ⟨by have := HI.out; omega⟩, ⟨HB.out.drew⟩⟩
    · have hi2 : i = xs.length := by have := HI.out; omega
      subst hi2
      have b2 : ¬ ((xs.length : Int) < (xs.length : Int)) := by omega
      clear HI hi
      go_wp2
      go_ret
      exact ⟨rfl, BB.out.trans (HB.out.mono BB.out.size)⟩
end Go.Proofs.Ytafhimeoijmolaa.K
namespace Go.Proofs.Ytafhimeoijmolaa.K
open Go.RowKit Go.Shelf Go.Lib Go.Proofs.YtafhimeoijmolaaW.PrintWords Go.Proofs.YtafhimeoijmolaaW.PrintLast Go.Proofs.YtafhimeoijmolaaW.PrintMore Go.Proofs.Ytafhimeoijmolaa.G
set_option linter.unusedVariables false
set_option linter.unusedSimpArgs false
instance instInh111 : Inhabited S111 := ⟨z111⟩
end Go.Proofs.Ytafhimeoijmolaa.K
namespace Go.Proofs.Ytafhimeoijmolaa.K
open Go.RowKit  Go.Proofs.YtafhimeoijmolaaW.PrintWords Go.Proofs.YtafhimeoijmolaaW.PrintLast Go.Proofs.YtafhimeoijmolaaW.PrintMore Go.Proofs.Ytafhimeoijmolaa.G
set_option linter.unusedVariables false
set_option linter.unusedSimpArgs false
attribute [local go_sem high] eqK eqK0
end Go.Proofs.Ytafhimeoijmolaa.K
namespace Go.Proofs.Ytafhimeoijmolaa.K
open Go.RowKit  Go.Proofs.YtafhimeoijmolaaW.PrintWords Go.Proofs.YtafhimeoijmolaaW.PrintLast Go.Proofs.YtafhimeoijmolaaW.PrintMore Go.Proofs.Ytafhimeoijmolaa.G
set_option linter.unusedVariables false
set_option linter.unusedSimpArgs false
attribute [local go_sem high] eqK eqK0
end Go.Proofs.Ytafhimeoijmolaa.K
namespace Go.Proofs.Ytafhimeoijmolaa.K
open Go.RowKit  Go.Proofs.YtafhimeoijmolaaW.PrintWords Go.Proofs.YtafhimeoijmolaaW.PrintLast Go.Proofs.YtafhimeoijmolaaW.PrintMore Go.Proofs.Ytafhimeoijmolaa.G
set_option linter.unusedVariables false
set_option linter.unusedSimpArgs false
end Go.Proofs.Ytafhimeoijmolaa.K
namespace Go.Proofs.Ytafhimeoijmolaa.G
open Go.RowKit Go.Proofs.YtafhimeoijmolaaW.PrintWords Go.Proofs.YtafhimeoijmolaaW.PrintLast Go.Proofs.YtafhimeoijmolaaW.PrintMore
set_option linter.unusedVariables false
set_option linter.unusedSimpArgs false
theorem up {α : Type} {g : Nat → Option α} (hm : ∀ k, LeO (g k) (g (k + 1))) {k0 k : Nat} {r : α} (h : g k0 = some r) (hk : k0 ≤ k) : g k = some r := by
  induction hk with
  | refl => exact h
  | step _ ih => exact hm _ _ ih
def opB (o : Option Bool) (b : Bool) : Bool := match o with | some x => x == b | none => false
theorem opB_eq {o : Option Bool} {b : Bool} (h : opB o b = true) : o = some b := by
  unfold opB at h
  split at h
  · rw [eq_of_beq h]
  · cases h
def opI (o : Option Int) (b : Nat) : Bool := match o with | some (.ofNat n) => Nat.beq n b | _ => false
theorem opI_eq {o : Option Int} {b : Nat} (h : opI o b = true) : o = some (b : Int) := by
  unfold opI at h
  split at h
  · rw [Nat.eq_of_beq_eq_true h]; rfl
  · cases h
def all1 (n : Nat) (p : Nat → Bool) : Bool := (List.range n).all p
theorem all1_at {n : Nat} {p : Nat → Bool} (h : all1 n p = true) {v : Nat} (hv : v < n) : p v = true := List.all_eq_true.1 h v (List.mem_range.2 hv)
def all2 (n m : Nat) (p : Nat → Nat → Bool) : Bool := (List.range n).all fun v => (List.range m).all fun w => p v w
theorem all2_at {n m : Nat} {p : Nat → Nat → Bool} (h : all2 n m p = true) {v w : Nat} (hv : v < n) (hw : w < m) : p v w = true := List.all_eq_true.1 (List.all_eq_true.1 h v (List.mem_range.2 hv)) w (List.mem_range.2 hw)
def blw (w v : Nat) : Bool := Nat.ble 1 v && (Nat.ble v w && Nat.beq (w >>> (Nat.log2 w - Nat.log2 v)) v)
def strd (d : Nat) : Nat := if Nat.ble d 1 then 1 else if Nat.ble d 4 then 2 else 3
def spc (s v : Nat) : Bool := Nat.beq (Nat.log2 v % s) 0
def nodesTo (v w : Nat) : List Nat := (List.range (Nat.log2 w - Nat.log2 v)).map fun i => w >>> (Nat.log2 w - Nat.log2 v - 1 - i)
def cutN (s v w : Nat) : Nat := ((nodesTo v (w >>> 1)).find? (spc s)).getD 0
def sub3 (kind s v w : Nat) : Bool := Nat.beq kind 2 || (spc s v || Nat.beq (cutN s v w) 0)
def subI (kind d : Nat) (v w : Int) : Bool :=
  decide (1 ≤ v) && (decide (v < 2 ^ (d + 1)) && (if kind = 1 then decide (w = 0) else if w = 0 then decide (v = 1) else
    decide (1 ≤ w) && (decide (w < 2 ^ (d + 1)) && (!decide (w = v) && (blw w.toNat v.toNat && sub3 kind (strd d) v.toNat w.toNat)))))
def memN (d v w u : Nat) : Bool := blw (2 ^ d + u) v && !blw (2 ^ d + u) w
theorem level_fin : all1 128 (fun v => opI (cover_node_level.f ((v + 1 : Nat) : Int)) (Nat.log2 (v + 1))) = true := by kernel_rfl
theorem level_n {v : Nat} (h0 : 1 ≤ v) (h : v < 129) : cover_node_level.f (v : Int) = some (Nat.log2 v : Int) := by
  obtain ⟨u, rfl⟩ : ∃ u, v = u + 1 := ⟨v - 1, by omega⟩
  exact opI_eq (all1_at level_fin (by omega))
theorem below_fin : all2 128 128 (fun w v => opB (cover_node_below.f 2 (w : Int) (v : Int)) (blw w v)) = true := by kernel_rfl
theorem below_n {w v k : Nat} (hw : w < 128) (hv : v < 128) (hk : 2 ≤ k) : cover_node_below.f k (w : Int) (v : Int) = some (blw w v) :=
  up (fun k => cover_node_below.mono _ _ k) (opB_eq (all2_at below_fin hw hv)) hk
theorem blw_parts {w v : Nat} (h : blw w v = true) : 1 ≤ v ∧ v ≤ w ∧ w >>> (Nat.log2 w - Nat.log2 v) = v := by
  unfold blw at h
  simp only [Bool.and_eq_true, Nat.ble_eq] at h
  exact ⟨h.1, h.2.1, Nat.eq_of_beq_eq_true h.2.2⟩
theorem strd_pos (d : Nat) : 1 ≤ strd d := by unfold strd; split; omega; split <;> omega
theorem strd_le (d : Nat) : strd d ≤ 3 := by unfold strd; split; omega; split <;> omega
theorem special_fin : all2 4 128 (fun s v => Nat.beq s 0 || (Nat.beq v 0 || opB (cover_tree_special.f 0 0 (s : Int) (v : Int)) (spc s v))) = true := by kernel_rfl
theorem special_n {s v : Nat} (a b : Int) (hs : 1 ≤ s) (hs3 : s ≤ 3) (h0 : 1 ≤ v) (h : v < 128) : cover_tree_special.f a b (s : Int) (v : Int) = some (spc s v) := by
  have e : cover_tree_special.f a b (s : Int) (v : Int) = cover_tree_special.f 0 0 (s : Int) (v : Int) := rfl
  have h1 := all2_at special_fin (show s < 4 by omega) h
  have h2 : Nat.beq s 0 = false := by cases s with | zero => omega | succ n => rfl
  have h3 : Nat.beq v 0 = false := by cases v with | zero => omega | succ n => rfl
  rw [h2, h3] at h1
  rw [e]
  exact opB_eq (by simpa using h1)
theorem cut_fin : all1 4 (fun s => all2 128 128 (fun v w => Nat.beq s 0 || (!(blw w v && !Nat.beq w v) || opI (cover_tree_cut.f 0 0 (s : Int) (v : Int) (w : Int)) (cutN s v w)))) = true := by kernel_rfl
theorem cut_n {s v w : Nat} (a b : Int) (hs : 1 ≤ s) (hs3 : s ≤ 3) (hv : v < 128) (hw : w < 128) (hb : blw w v = true) (hne : w ≠ v) : cover_tree_cut.f a b (s : Int) (v : Int) (w : Int) = some (cutN s v w : Int) := by
  have h1 := all2_at (all1_at cut_fin (show s < 4 by omega)) hv hw
  have h2 : Nat.beq s 0 = false := by cases s with | zero => omega | succ n => rfl
  have h3 : Nat.beq w v = false := by
    cases e : Nat.beq w v with
    | false => rfl
    | true => exact absurd (Nat.eq_of_beq_eq_true e) hne
  rw [h2, h3, hb] at h1
  have e : ∀ xs, firstF a b (s : Int) xs = firstF 0 0 (s : Int) xs := by
    intro xs
    induction xs with
    | nil => rfl
    | cons x xs ih => simp only [firstF]; rw [ih]; rfl
  have e2 : cover_tree_cut.f a b (s : Int) (v : Int) (w : Int) = cover_tree_cut.f 0 0 (s : Int) (v : Int) (w : Int) := by
    unfold cover_tree_cut.f
    split
    · rfl
    · congr 1; funext xs; exact e xs
  rw [e2]
  exact opI_eq (by simpa using h1)
def ValidI (a0 a1 a2 a3 a4 a5 : Int) : Prop := 1 ≤ a0 ∧ a0 ≤ 3 ∧ 0 ≤ a1 ∧ a1 ≤ 6 ∧ a2 = 0 ∧ a3 = 0 ∧ a4 = 0 ∧ a5 = 0
theorem treeOf_fin : all2 4 7 (fun a d => Nat.beq a 0 || (match cover_treeOf.f 5 (a : Int) (d : Int) 0 0 0 0 with | some (.ofNat x, .ofNat y, .ofNat z, b) => Nat.beq x a && (Nat.beq y d && (Nat.beq z (strd d) && b)) | _ => false)) = true := by kernel_rfl
theorem treeOf_n {a d k : Nat} (ha : 1 ≤ a) (ha3 : a ≤ 3) (hd : d ≤ 6) (hk : 5 ≤ k) : cover_treeOf.f k (a : Int) (d : Int) 0 0 0 0 = some ((a : Int), (d : Int), (strd d : Int), true) := by
  have h1 := all2_at treeOf_fin (show a < 4 by omega) (show d < 7 by omega)
  have h2 : Nat.beq a 0 = false := by cases a with | zero => omega | succ n => rfl
  rw [h2] at h1
  refine up (fun k => cover_treeOf.mono _ _ _ _ _ _ k) (k0 := 5) ?_ hk
  simp only [Bool.false_or] at h1
  split at h1
  · rename_i x y z b e
    rw [e]
    simp only [Bool.and_eq_true] at h1
    obtain ⟨e1, e2, e3, e4⟩ := h1
    rw [Nat.eq_of_beq_eq_true e1, Nat.eq_of_beq_eq_true e2, Nat.eq_of_beq_eq_true e3, e4]
    rfl
  · cases h1
theorem treeOf_bad {a0 a1 a2 a3 a4 a5 : Int} {k : Nat} (h : ¬ ValidI a0 a1 a2 a3 a4 a5) (hk : 1 ≤ k) : cover_treeOf.f k a0 a1 a2 a3 a4 a5 = some (0, 0, 0, false) := by
  obtain ⟨k, rfl⟩ : ∃ m, k = m + 1 := ⟨k - 1, by omega⟩
  unfold cover_treeOf.f
  have hj : cover_treeOf.j0 (k + 1) true a0 a1 a2 a3 a4 a5 = some (0, 0, 0, false) := by simp only [cover_treeOf.j0]; rfl
  split
  · exact hj
  split
  · exact hj
  split
  · exact hj
  split
  · exact hj
  have hb : (!(a2 == 0) || ((!(a3 == 0) || (!(a4 == 0) || (!(a5 == 0)))))) = true := by
    unfold ValidI at h
    by_cases e2 : a2 = 0
    · by_cases e3 : a3 = 0
      · by_cases e4 : a4 = 0
        · by_cases e5 : a5 = 0
          · exact absurd ⟨by omega, by omega, by omega, by omega, e2, e3, e4, e5⟩ h
          · simp [e5]
        · simp [e4]
      · simp [e3]
    · simp [e2]
  rw [hb]
  exact hj
theorem size_n {d : Nat} (a c : Int) (hd : d ≤ 6) : cover_tree_size.f a (d : Int) c = some ((2 ^ d : Nat) : Int) := by
  match d, hd with
  | 0, _ => rfl
  | 1, _ => rfl
  | 2, _ => rfl
  | 3, _ => rfl
  | 4, _ => rfl
  | 5, _ => rfl
  | 6, _ => rfl
theorem pow_le64 {d : Nat} (hd : d ≤ 6) : 2 ^ d ≤ 64 ∧ 1 ≤ 2 ^ d := by
  match d, hd with
  | 0, _ => decide
  | 1, _ => decide
  | 2, _ => decide
  | 3, _ => decide
  | 4, _ => decide
  | 5, _ => decide
  | 6, _ => decide
theorem has_n {d : Nat} (a c v : Int) (hd : d ≤ 6) : cover_tree_has.f a (d : Int) c v = some (decide (1 ≤ v) && decide (v < 2 ^ (d + 1))) := by
  have hp := pow_le64 hd
  unfold cover_tree_has.f
  rw [size_n a c hd]
  have e : wrap64 (2 * ((2 ^ d : Nat) : Int)) = 2 ^ (d + 1) := by
    have h : (2 : Int) ^ (d + 1) = 2 * ((2 ^ d : Nat) : Int) := by rw [Int.pow_succ]; push_cast; omega
    rw [h]
    unfold wrap64
    omega
  split
  · rename_i h
    simp only [Option.bind_some, e]
    have h' : decide (1 ≤ v) = true := decide_eq_true h
    rw [h']; rfl
  · rename_i h
    have h' : decide (1 ≤ v) = false := decide_eq_false h
    rw [h']; rfl
end Go.Proofs.Ytafhimeoijmolaa.G
namespace Go.Proofs.Ytafhimeoijmolaa.G
open Go.RowKit Go.Proofs.YtafhimeoijmolaaW.PrintWords Go.Proofs.YtafhimeoijmolaaW.PrintLast Go.Proofs.YtafhimeoijmolaaW.PrintMore
set_option linter.unusedVariables false
set_option linter.unusedSimpArgs false
theorem pow_lt128 {d : Nat} (hd : d ≤ 6) : 2 ^ (d + 1) ≤ 128 := by
  have := pow_le64 hd
  rw [Nat.pow_succ]; omega
theorem int_pow (d : Nat) : (2 : Int) ^ (d + 1) = ((2 ^ (d + 1) : Nat) : Int) := by push_cast; rfl
theorem node_nat {d : Nat} {v : Int} (hd : d ≤ 6) (h1 : 1 ≤ v) (h2 : v < 2 ^ (d + 1)) : ∃ n : Nat, v = n ∧ 1 ≤ n ∧ n < 2 ^ (d + 1) ∧ n < 128 := by
  rw [int_pow] at h2
  have := pow_lt128 hd
  exact ⟨v.toNat, by omega, by omega, by omega, by omega⟩
theorem subset_n {a d k : Nat} (v w : Int) (ha : 1 ≤ a) (ha3 : a ≤ 3) (hd : d ≤ 6) (hk : 4 ≤ k) : cover_tree_subset.f k (a : Int) (d : Int) (strd d : Int) v w = some (subI a d v w) := by
  obtain ⟨k, rfl⟩ : ∃ m, k = m + 2 := ⟨k - 2, by omega⟩
  unfold cover_tree_subset.f subI
  rw [has_n _ _ v hd]
  simp only [Option.bind_some]
  by_cases h1 : 1 ≤ v
  · by_cases h2 : v < 2 ^ (d + 1)
    · rw [decide_eq_true h1, decide_eq_true h2]
      simp only [Bool.and_self, if_true, Bool.true_and]
      obtain ⟨n, rfl, hn1, hn2, hn3⟩ := node_nat hd h1 h2
      by_cases e1 : a = 1
      · subst e1
        by_cases hw : w = 0 <;> simp [hw, cover_tree_subset.j0]
      · have e1' : ¬ ((a : Int) = 1) := by omega
        rw [if_neg e1', if_neg e1]
        by_cases hw : w = 0
        · subst hw
          simp only [cover_tree_subset.j0, beq_self_eq_true, if_true, if_neg e1']
          congr 1
        · have hw' : (w == 0) = false := by simp [hw]
          rw [hw', if_neg hw]
          simp only [cover_tree_subset.j0, Bool.false_eq_true, if_false]
          rw [has_n _ _ w hd]
          simp only [Option.bind_some]
          by_cases h3 : 1 ≤ w
          · by_cases h4 : w < 2 ^ (d + 1)
            · rw [decide_eq_true h3, decide_eq_true h4]
              obtain ⟨m, rfl, hm1, hm2, hm3⟩ := node_nat hd h3 h4
              simp only [Bool.and_self, if_true, Bool.true_and]
              by_cases h5 : (m : Int) = n
              · rw [if_pos h5, decide_eq_true h5]
                simp only [cover_tree_subset.j1, if_true, Bool.not_true, Bool.false_and]
              · rw [if_neg h5, decide_eq_false h5, below_n hm3 hn3 (by omega)]
                simp only [Option.bind_some, Bool.not_false, Bool.true_and, Int.toNat_natCast]
                cases hb : blw m n with
                | false => simp only [Bool.not_false, cover_tree_subset.j1, if_true, Bool.false_and]
                | true =>
                  simp only [Bool.not_true, cover_tree_subset.j1, Bool.false_eq_true, if_false, Bool.true_and]
                  unfold sub3
                  by_cases e2 : a = 2
                  · subst e2; rfl
                  · have e2' : ¬ ((a : Int) = 2) := by omega
                    have e2'' : Nat.beq a 2 = false := by
                      cases e : Nat.beq a 2 with
                      | false => rfl
                      | true => exact absurd (Nat.eq_of_beq_eq_true e) e2
                    rw [if_neg e2', e2'', special_n _ _ (strd_pos d) (strd_le d) hn1 hn3]
                    simp only [Option.bind_some, Bool.false_or]
                    cases hs : spc (strd d) n with
                    | true => rfl
                    | false =>
                      rw [cut_n _ _ (strd_pos d) (strd_le d) hn3 hm3 hb (by omega)]
                      simp only [Bool.false_eq_true, if_false, Option.bind_some, Bool.false_or]
                      congr 1
                      cases cutN (strd d) n m with
                      | zero => rfl
                      | succ c =>
                        have h9 : (((c + 1 : Nat) : Int) == 0) = false := by rw [beq_eq_false_iff_ne]; omega
                        rw [h9]; rfl
            · rw [decide_eq_false h4]
              simp only [Bool.and_false, Bool.false_eq_true, if_false, cover_tree_subset.j1, if_true, Bool.false_and]
          · rw [decide_eq_false h3]
            simp only [Bool.false_and, Bool.false_eq_true, if_false, cover_tree_subset.j1, if_true]
    · rw [decide_eq_false h2]
      simp only [Bool.and_false, Bool.false_eq_true, if_false, Bool.false_and]
  · rw [decide_eq_false h1]
    simp only [Bool.false_and, Bool.false_eq_true, if_false]
theorem enter_nil {a d k : Nat} (ha : 1 ≤ a) (ha3 : a ≤ 3) (hd : d ≤ 6) (hk : 5 ≤ k) : cover_enter.f k (a : Int) (d : Int) 0 0 0 0 [] = some ((a : Int), (d : Int), (strd d : Int), 0) := by
  obtain ⟨k, rfl⟩ : ∃ m, k = m + 1 := ⟨k - 1, by omega⟩
  unfold cover_enter.f
  rw [treeOf_n ha ha3 hd hk]
  simp [cover_enter.l0]
theorem enter_bad {a0 a1 a2 a3 a4 a5 : Int} {k : Nat} (l : List S47) (h : ¬ ValidI a0 a1 a2 a3 a4 a5) (hk : 1 ≤ k) : cover_enter.f k a0 a1 a2 a3 a4 a5 l = some (0, 0, 0, 30) := by
  unfold cover_enter.f
  rw [treeOf_bad h hk]
  simp
theorem enter_one {a d k : Nat} (v w : Int) (ha : 1 ≤ a) (ha3 : a ≤ 3) (hd : d ≤ 6) (hk : 6 ≤ k) :
    cover_enter.f k (a : Int) (d : Int) 0 0 0 0 [⟨v, w⟩] = if subI a d v w = true then some ((a : Int), (d : Int), (strd d : Int), 0) else some (0, 0, 0, 31) := by
  obtain ⟨k, rfl⟩ : ∃ m, k = m + 2 := ⟨k - 2, by omega⟩
  unfold cover_enter.f
  rw [treeOf_n ha ha3 hd (by omega)]
  simp only [Option.bind_some, if_true, List.length_singleton, cover_enter.l0]
  rw [if_pos (by omega), if_pos (by omega), if_pos (by omega)]
  have e : ∀ i : Int, i = 0 → rd_T47 [⟨v, w⟩] i = ⟨v, w⟩ := by rintro i rfl; rfl
  rw [e 0 rfl, subset_n v w ha ha3 hd (by omega)]
  simp only [Option.bind_some]
  split
  · rw [show wrap64 (0 + 1) = 1 from by unfold wrap64; omega, if_neg (by omega)]
  · rfl
end Go.Proofs.Ytafhimeoijmolaa.G
namespace Go.Proofs.Ytafhimeoijmolaa.G
open Go.RowKit Go.Proofs.YtafhimeoijmolaaW.PrintWords Go.Proofs.YtafhimeoijmolaaW.PrintLast Go.Proofs.YtafhimeoijmolaaW.PrintMore
set_option linter.unusedVariables false
set_option linter.unusedSimpArgs false
def listEq : List Int → List Nat → Bool
  | [], [] => true
  | .ofNat a :: l, b :: m => Nat.beq a b && listEq l m
  | _, _ => false
theorem listEq_eq : ∀ {l : List Int} {m : List Nat}, listEq l m = true → l = m.map Int.ofNat
  | [], [], _ => rfl
  | .ofNat a :: l, b :: m, h => by
    simp only [listEq, Bool.and_eq_true] at h
    rw [Nat.eq_of_beq_eq_true h.1, listEq_eq h.2]; rfl
  | [], b :: m, h => by cases h
  | .ofNat a :: l, [], h => by cases h
  | .negSucc a :: l, m, h => by cases m <;> cases h
def opL (o : Option (List Int)) (m : List Nat) : Bool := match o with | some l => listEq l m | none => false
theorem opL_eq {o : Option (List Int)} {m : List Nat} (h : opL o m = true) : o = some (m.map Int.ofNat) := by
  unfold opL at h
  split at h
  · rw [listEq_eq h]
  · cases h
theorem rBelow_fin : all2 128 128 (fun w v => Nat.beq v 0 || opB (headendref03_Below.f 20 (w : Int) (v : Int)) (blw w v)) = true := by kernel_rfl
theorem rBelow_n {w v k : Nat} (hw : w < 128) (hv : v < 128) (h1 : 1 ≤ v) (hk : 20 ≤ k) : headendref03_Below.f k (w : Int) (v : Int) = some (blw w v) := by
  have h := all2_at rBelow_fin hw hv
  have h2 : Nat.beq v 0 = false := by cases v with | zero => omega | succ n => rfl
  rw [h2] at h
  exact up (fun k => headendref03_Below.mono _ _ k) (opB_eq (by simpa using h)) hk
theorem rReceivers_fin : all1 7 (fun d => opI (headendref03_Receivers.f 10 (d : Int)) (2 ^ d)) = true := by kernel_rfl
theorem rReceivers_n {d k : Nat} (hd : d ≤ 6) (hk : 10 ≤ k) : headendref03_Receivers.f k (d : Int) = some ((2 ^ d : Nat) : Int) :=
  up (fun k => headendref03_Receivers.mono _ k) (opI_eq (all1_at rReceivers_fin (by omega))) hk
theorem rNode_n {d k : Nat} (v : Int) (hd : d ≤ 6) (hk : 10 ≤ k) : headendref03_Node.f k (d : Int) v = some (decide (1 ≤ v) && decide (v < 2 ^ (d + 1))) := by
  have hp := pow_le64 hd
  unfold headendref03_Node.f
  rw [rReceivers_n hd hk]
  have e : wrap64 (2 * ((2 ^ d : Nat) : Int)) = 2 ^ (d + 1) := by
    have h : (2 : Int) ^ (d + 1) = 2 * ((2 ^ d : Nat) : Int) := by rw [Int.pow_succ]; push_cast; omega
    rw [h]
    unfold wrap64
    omega
  split
  · rename_i h
    simp only [Option.bind_some, e]
    have h' : decide (1 ≤ v) = true := decide_eq_true h
    rw [h']; rfl
  · rename_i h
    have h' : decide (1 ≤ v) = false := decide_eq_false h
    rw [h']; rfl
theorem rSpecial_fin : all2 7 128 (fun d v => Nat.beq v 0 || opB (headendref03_Special.f 20 (d : Int) (v : Int)) (spc (strd d) v)) = true := by kernel_rfl
theorem rSpecial_n {d v k : Nat} (hd : d ≤ 6) (h0 : 1 ≤ v) (h : v < 128) (hk : 20 ≤ k) : headendref03_Special.f k (d : Int) (v : Int) = some (spc (strd d) v) := by
  have h1 := all2_at rSpecial_fin (show d < 7 by omega) h
  have h3 : Nat.beq v 0 = false := by cases v with | zero => omega | succ n => rfl
  rw [h3] at h1
  exact up (fun k => headendref03_Special.mono _ _ k) (opB_eq (by simpa using h1)) hk
theorem beq_ne {a b : Nat} (h : a ≠ b) : Nat.beq a b = false := by
  cases e : Nat.beq a b with
  | false => rfl
  | true => exact absurd (Nat.eq_of_beq_eq_true e) h
theorem rPath_fin : all2 128 128 (fun v w => !blw w v || opL (headendref03_Path.f 20 (v : Int) (w : Int)) (v :: nodesTo v w)) = true := by kernel_rfl
theorem rPath_n {v w k : Nat} (hv : v < 128) (hw : w < 128) (hb : blw w v = true) (hk : 20 ≤ k) : headendref03_Path.f k (v : Int) (w : Int) = some ((v :: nodesTo v w).map Int.ofNat) := by
  have h1 := all2_at rPath_fin hv hw
  rw [hb] at h1
  exact up (fun k => headendref03_Path.mono _ _ k) (opL_eq (by simpa using h1)) hk
theorem rBetween_fin : all1 7 (fun d => all2 128 128 (fun v w => !(blw w v && !Nat.beq w v) || opI (headendref03_between.f 30 (d : Int) (v : Int) (w : Int)) (cutN (strd d) v w))) = true := by kernel_rfl
theorem rBetween_n {d v w k : Nat} (hd : d ≤ 6) (hv : v < 128) (hw : w < 128) (hb : blw w v = true) (hne : w ≠ v) (hk : 30 ≤ k) : headendref03_between.f k (d : Int) (v : Int) (w : Int) = some (cutN (strd d) v w : Int) := by
  have h1 := all2_at (all1_at rBetween_fin (show d < 7 by omega)) hv hw
  rw [hb, beq_ne hne] at h1
  exact up (fun k => headendref03_between.mono _ _ _ k) (opI_eq (by simpa using h1)) hk
theorem rSubset_n {a d k : Nat} (v w x2 x3 x4 x5 : Int) (ha : 1 ≤ a) (ha3 : a ≤ 3) (hd : d ≤ 6) (hk : 31 ≤ k) : headendref03_IsSubset.f k (a : Int) (d : Int) x2 x3 x4 x5 v w = some (subI a d v w) := by
  obtain ⟨k, rfl⟩ : ∃ m, k = m + 1 := ⟨k - 1, by omega⟩
  unfold headendref03_IsSubset.f subI
  rw [rNode_n v hd (by omega)]
  simp only [Option.bind_some]
  by_cases h1 : 1 ≤ v
  · by_cases h2 : v < 2 ^ (d + 1)
    · rw [decide_eq_true h1, decide_eq_true h2]
      simp only [Bool.and_self, if_true, Bool.true_and]
      obtain ⟨n, rfl, hn1, hn2, hn3⟩ := node_nat hd h1 h2
      by_cases e1 : a = 1
      · subst e1
        by_cases hw : w = 0 <;> simp [hw]
      · have e1' : ¬ ((a : Int) = 1) := by omega
        rw [if_neg e1', if_neg e1]
        by_cases hw : w = 0
        · subst hw
          simp only [if_true]
          congr 1
        · rw [if_neg hw, if_neg hw, rNode_n w hd (by omega)]
          simp only [Option.bind_some]
          by_cases h3 : 1 ≤ w
          · by_cases h4 : w < 2 ^ (d + 1)
            · rw [decide_eq_true h3, decide_eq_true h4]
              obtain ⟨m, rfl, hm1, hm2, hm3⟩ := node_nat hd h3 h4
              simp only [Bool.and_self, if_true, Bool.true_and]
              by_cases h5 : (m : Int) = n
              · rw [if_pos h5, decide_eq_true h5]
                simp only [headendref03_IsSubset.j0, if_true, Bool.not_true, Bool.false_and]
              · rw [if_neg h5, decide_eq_false h5, rBelow_n hm3 hn3 hn1 (by omega)]
                simp only [Option.bind_some, Bool.not_false, Bool.true_and, Int.toNat_natCast]
                cases hb : blw m n with
                | false => simp only [Bool.not_false, headendref03_IsSubset.j0, if_true, Bool.false_and]
                | true =>
                  simp only [Bool.not_true, headendref03_IsSubset.j0, Bool.false_eq_true, if_false, Bool.true_and]
                  unfold sub3
                  by_cases e2 : a = 2
                  · subst e2; rfl
                  · have e2' : ¬ ((a : Int) = 2) := by omega
                    rw [if_neg e2', beq_ne e2, rSpecial_n hd hn1 hn3 (by omega)]
                    simp only [Option.bind_some, Bool.false_or]
                    cases hs : spc (strd d) n with
                    | true => rfl
                    | false =>
                      rw [rBetween_n hd hn3 hm3 hb (by omega) (by omega)]
                      simp only [Bool.false_eq_true, if_false, Option.bind_some, Bool.false_or]
                      congr 1
                      cases cutN (strd d) n m with
                      | zero => rfl
                      | succ c =>
                        have h9 : (((c + 1 : Nat) : Int) == 0) = false := by rw [beq_eq_false_iff_ne]; omega
                        rw [h9]; rfl
            · rw [decide_eq_false h4]
              simp only [Bool.and_false, Bool.false_eq_true, if_false, headendref03_IsSubset.j0, if_true, Bool.false_and]
          · rw [decide_eq_false h3]
            simp only [Bool.false_and, Bool.false_eq_true, if_false, headendref03_IsSubset.j0, if_true]
    · rw [decide_eq_false h2]
      simp only [Bool.and_false, Bool.false_eq_true, if_false, Bool.false_and]
  · rw [decide_eq_false h1]
    simp only [Bool.false_and, Bool.false_eq_true, if_false]
theorem blw_zero (w : Nat) : blw w 0 = false := rfl
theorem rHas_n {d v w u k : Nat} (a x2 x3 x4 x5 : Int) (hd : d ≤ 6) (hv1 : 1 ≤ v) (hv : v < 128) (hw : w < 128) (hu : u < 2 ^ d) (hk : 20 ≤ k) : headendref03_Has.f k a (d : Int) x2 x3 x4 x5 (v : Int) (w : Int) (u : Int) = some (memN d v w u) := by
  have hp := pow_le64 hd
  unfold headendref03_Has.f memN
  rw [rReceivers_n hd (by omega)]
  simp only [Option.bind_some]
  have e : wrap64 (((2 ^ d : Nat) : Int) + (u : Int)) = ((2 ^ d + u : Nat) : Int) := by unfold wrap64; omega
  rw [e, rBelow_n (by omega) hv hv1 hk]
  simp only [Option.bind_some]
  cases blw (2 ^ d + u) v with
  | false => rfl
  | true =>
    simp only [if_true]
    by_cases h : (w : Int) = 0
    · obtain rfl : w = 0 := by omega
      rw [if_pos h, blw_zero]; rfl
    · rw [if_neg h, rBelow_n (by omega) hw (by omega) hk]; rfl
theorem rValid_good {a d : Nat} (ha : 1 ≤ a) (ha3 : a ≤ 3) (hd : d ≤ 6) : headendref03_Valid.f (a : Int) (d : Int) 0 0 0 0 = some true := by
  unfold headendref03_Valid.f
  rw [if_pos (by omega), if_pos (by omega), if_pos (by omega), if_pos (by omega)]
  simp
theorem rValid_bad {a0 a1 a2 a3 a4 a5 : Int} (h : ¬ ValidI a0 a1 a2 a3 a4 a5) : headendref03_Valid.f a0 a1 a2 a3 a4 a5 = some false := by
  unfold headendref03_Valid.f
  split
  · split
    · split
      · split
        · split
          · have hb : (a3 == 0 && (a4 == 0 && (a5 == 0))) = false := by
              unfold ValidI at h
              by_cases e3 : a3 = 0
              · by_cases e4 : a4 = 0
                · by_cases e5 : a5 = 0
                  · exact absurd ⟨by omega, by omega, by omega, by omega, by omega, e3, e4, e5⟩ h
                  · simp [e5]
                · simp [e4]
              · simp [e3]
            rw [hb]
          · rfl
        · rfl
      · rfl
    · rfl
  · rfl
theorem ValidI.nat {a0 a1 a2 a3 a4 a5 : Int} (h : ValidI a0 a1 a2 a3 a4 a5) : ∃ a d : Nat, a0 = a ∧ a1 = d ∧ 1 ≤ a ∧ a ≤ 3 ∧ d ≤ 6 ∧ a2 = 0 ∧ a3 = 0 ∧ a4 = 0 ∧ a5 = 0 := by
  obtain ⟨h1, h2, h3, h4, h5, h6, h7, h8⟩ := h
  exact ⟨a0.toNat, a1.toNat, by omega, by omega, by omega, by omega, by omega, h5, h6, h7, h8⟩
theorem subI_nat {a d : Nat} {v w : Int} (ha : 1 ≤ a) (hd : d ≤ 6) (h : subI a d v w = true) : ∃ n m : Nat, v = n ∧ w = m ∧ 1 ≤ n ∧ n < 2 ^ (d + 1) ∧ n < 128 ∧ m < 2 ^ (d + 1) ∧ m < 128 := by
  have hp := pow_lt128 hd
  have hp1 : 1 ≤ 2 ^ (d + 1) := Nat.one_le_two_pow
  unfold subI at h
  simp only [Bool.and_eq_true, decide_eq_true_eq] at h
  obtain ⟨h1, h2, h3⟩ := h
  obtain ⟨n, rfl, hn1, hn2, hn3⟩ := node_nat hd h1 h2
  split at h3
  · have hw : w = 0 := of_decide_eq_true h3
    exact ⟨n, 0, rfl, hw, hn1, hn2, hn3, by omega, by omega⟩
  · split at h3
    · rename_i hw
      exact ⟨n, 0, rfl, hw, hn1, hn2, hn3, by omega, by omega⟩
    · simp only [Bool.and_eq_true, decide_eq_true_eq] at h3
      obtain ⟨m, rfl, hm1, hm2, hm3⟩ := node_nat hd h3.1 h3.2.1
      exact ⟨n, m, rfl, rfl, hn1, hn2, hn3, hm2, hm3⟩
end Go.Proofs.Ytafhimeoijmolaa.G
namespace Go.Proofs.Ytafhimeoijmolaa.K
open Go.RowKit  Go.Proofs.YtafhimeoijmolaaW.PrintWords Go.Proofs.YtafhimeoijmolaaW.PrintLast Go.Proofs.YtafhimeoijmolaaW.PrintMore Go.Proofs.Ytafhimeoijmolaa.G
set_option linter.unusedVariables false
set_option linter.unusedSimpArgs false
theorem level_big {m : Int} (h1 : 128 ≤ m) (h2 : m < 9223372036854775808) : ∃ L : Int, cover_node_level.f m = some L ∧ 7 ≤ L ∧ L ≤ 63 := by
  have e : IntKind.u64.wrap m = m := by simp [IntKind.wrap, IntKind.bits, IntKind.signed]; omega
  unfold cover_node_level.f bits_Len.f
  rw [e, if_pos (by omega), if_pos (by omega)]
  have h3 := Lib.bitLen_shift 7 m.toNat (by omega) (by omega)
  have h4 := Lib.bitLen_half (m.toNat / 2 ^ 7) (by omega) (by omega)
  have h5 := Lib.bitLen_le m.toNat 64 (by omega) (by omega)
  have hw : wrap64 ((Lib.bitLen m.toNat : Int) - 1) = (Lib.bitLen m.toNat : Int) - 1 := by unfold wrap64; omega
  exact ⟨_, rfl, by rw [hw]; omega, by rw [hw]; omega⟩
theorem rBelow_some : ∀ (k : Nat) (m v : Int), k ≤ 63 → 0 ≤ m → m < 2 ^ k → 1 ≤ v → ∃ b, headendref03_Below.l0 (k + 1) m v = some b
  | 0, m, v, _, h0, h1, hv => ⟨_, by unfold headendref03_Below.l0; rw [if_neg (by omega)]⟩
  | k + 1, m, v, hk, h0, h1, hv => by
    have hp : (2 : Int) ^ (k + 1) ≤ 2 ^ 63 := by exact_mod_cast Nat.pow_le_pow_right (by omega) hk
    unfold headendref03_Below.l0
    by_cases h : m > v
    · rw [if_pos h]
      have e : wrap64 (Int.tdiv m 2) = m / 2 := by
        rw [Int.tdiv_eq_ediv_of_nonneg h0]
        unfold wrap64
        have : (2 : Int) ^ 63 = 9223372036854775808 := by decide
        omega
      rw [e]
      exact rBelow_some k _ v (by omega) (by omega) (by rw [Int.pow_succ] at h1; omega) hv
    · rw [if_neg h]; exact ⟨_, rfl⟩
theorem bl_lt1 {m n : Int} (h : m < 1) : cover_node_below.f 2 m n = some false := by
  unfold cover_node_below.f; rw [if_pos h]; rfl
theorem bl_big {t : Nat} {m : Int} (ht : t < 128) (ht1 : 1 ≤ t) (h1 : 128 ≤ m) (h2 : m < 9223372036854775808) : cover_node_below.f 2 (t : Int) m = some false := by
  obtain ⟨L, hL, h3, h4⟩ := level_big h1 h2
  have hlog : Nat.log2 t ≤ 6 := by
    have := Nat.log2_lt (n := t) (k := 7) (by omega)
    have h5 := this.2 (by omega)
    omega
  unfold cover_node_below.f
  rw [if_neg (by omega), if_neg (by omega), level_n ht1 (by omega), hL]
  show cover_node_below.j0 2 (t : Int) m (decide ((Nat.log2 t : Int) < L)) = _
  rw [decide_eq_true (by omega)]
  rfl
theorem bl_any {n : Nat} {m : Int} (hn : n < 128) (hn1 : 1 ≤ n) (h1 : 128 ≤ m) (h2 : m < 9223372036854775808) : ∃ b, cover_node_below.f 2 m (n : Int) = some b := by
  obtain ⟨L, hL, h3, h4⟩ := level_big h1 h2
  have hlog : Nat.log2 n ≤ 6 := by
    have := Nat.log2_lt (n := n) (k := 7) (by omega)
    have h5 := this.2 (by omega)
    omega
  unfold cover_node_below.f
  rw [if_neg (by omega), if_neg (by omega), level_n hn1 (by omega), hL]
  show ∃ b, cover_node_below.j0 2 m (n : Int) (decide (L < (Nat.log2 n : Int))) = some b
  rw [decide_eq_false (by omega)]
  show ∃ b, (if false = true then some false else ((cover_node_level.f m).bind fun t376 => ((cover_node_level.f (n : Int)).bind fun t377 => (if 0 ≤ (wrap64 (t376 - t377)) then (some ((shr .i64 m (wrap64 (t376 - t377))) == (n : Int))) else (none))))) = some b
  rw [if_neg (by simp), level_n hn1 (by omega), hL]
  have e : wrap64 (L - (Nat.log2 n : Int)) = L - (Nat.log2 n : Int) := by unfold wrap64; omega
  simp only [Option.bind_some, e]
  rw [if_pos (by omega)]
  exact ⟨_, rfl⟩
def I64 (x : Int) : Prop := -9223372036854775808 ≤ x ∧ x < 9223372036854775808
theorem leads_n {a d : Nat} {v t n m : Int} (ha : 1 ≤ a) (ha3 : a ≤ 3) (hd : d ≤ 6) (hs : subI a d v t = true) (hm : I64 m) :
    ∃ b, leadsF a n m v t = some b ∧ headendref03_leads.f 100 a d 0 0 0 0 n m v t = some b ∧ (b = true → (a : Int) ≠ 1 → t ≠ 0 → ∃ p q : Nat, m = p ∧ t = q ∧ p < 128 ∧ q < 128 ∧ blw q p = true) := by
  unfold leadsF headendref03_leads.f
  have hj : ∀ (b : Bool), headendref03_leads.j0 100 n m b v t = if b = true then (if n = v then (some (m == t)) else (some false)) else (if n = v then (if m ≥ 1 then ((headendref03_Below.f 99 m n).bind fun t1484 => (if t1484 = true then ((headendref03_Below.f 99 t m).bind fun t1485 => (some t1485)) else (some false))) else (some false)) else (some false)) := fun b => rfl
  by_cases h1 : (a : Int) = 1
  · rw [if_pos h1, hj, if_pos rfl]
    by_cases h2 : n = v
    · rw [if_pos h2, if_pos h2, if_pos (.inl h1)]; exact ⟨_, rfl, rfl, fun _ h => absurd h1 h⟩
    · rw [if_neg h2, if_neg h2]; exact ⟨_, rfl, rfl, fun h => by cases h⟩
  · rw [if_neg h1, hj]
    by_cases h3 : t = 0
    · have h3' : (t == 0) = true := by simp [h3]
      rw [if_pos h3']
      by_cases h2 : n = v
      · rw [if_pos h2, if_pos h2, if_pos (.inr h3)]; exact ⟨_, rfl, rfl, fun _ _ h => absurd h3 h⟩
      · rw [if_neg h2, if_neg h2]; exact ⟨_, rfl, rfl, fun h => by cases h⟩
    · have h3' : ¬ ((t == 0) = true) := by simp [h3]
      rw [if_neg h3']
      by_cases h2 : n = v
      · rw [if_pos h2, if_pos h2, if_neg (by rintro (h | h) <;> contradiction)]
        obtain ⟨n', t', e1, e2, hn1, _, hn, _, ht⟩ := subI_nat ha hd hs
        subst h2
        rw [e1, e2]
        have ht1 : 1 ≤ t' := by omega
        by_cases hm1 : m < 1
        · rw [bl_lt1 hm1, if_neg (by omega)]; exact ⟨false, rfl, rfl, fun h => by cases h⟩
        · rw [if_pos (by omega)]
          by_cases hm2 : m < 128
          · obtain ⟨p, rfl⟩ : ∃ p : Nat, m = p := ⟨m.toNat, by omega⟩
            rw [below_n (by omega) hn (Nat.le_refl _), rBelow_n (by omega) hn hn1 (by omega), below_n ht (by omega) (Nat.le_refl _), rBelow_n ht (by omega) (by omega) (by omega)]
            cases hb : blw p n'
            · exact ⟨false, rfl, rfl, fun h => by cases h⟩
            · exact ⟨blw t' p, rfl, rfl, fun h _ _ => ⟨p, t', rfl, rfl, by omega, ht, h⟩⟩
          · obtain ⟨b1, hb1⟩ := bl_any hn hn1 (by omega) hm.2
            obtain ⟨b2, hb2⟩ := rBelow_some 63 m n' (Nat.le_refl _) (by omega) (by have := hm.2; omega) (by omega)
            have hb3 : headendref03_Below.f 99 m (n' : Int) = some b2 := up (fun k => headendref03_Below.mono _ _ k) (k0 := 64) hb2 (by omega)
            have hb4 : headendref03_Below.f 99 (t' : Int) m = some false := by
              unfold headendref03_Below.f headendref03_Below.l0
              rw [if_neg (by omega)]
              rw [beq_eq_false_iff_ne.mpr (show (t' : Int) ≠ m by omega)]
            rw [hb1, bl_big ht ht1 (by omega) hm.2, hb3, hb4]
            refine ⟨false, ?_, ?_, fun h => by cases h⟩
            · cases b1 <;> rfl
            · cases b2 <;> rfl
      · rw [if_neg h2, if_neg h2]; exact ⟨_, rfl, rfl, fun h => by cases h⟩
end Go.Proofs.Ytafhimeoijmolaa.K
namespace Go.Proofs.Ytafhimeoijmolaa.K
open Go.RowKit  Go.Proofs.YtafhimeoijmolaaW.PrintWords Go.Proofs.YtafhimeoijmolaaW.PrintLast Go.Proofs.YtafhimeoijmolaaW.PrintMore Go.Proofs.Ytafhimeoijmolaa.G
set_option linter.unusedVariables false
set_option linter.unusedSimpArgs false
def findR (e : Int) (r : S26 × Bool) : S26 × Int := if e = 0 then (if r.2 = true then (r.1, 0) else (z26, 6)) else (z26, e)
set_option maxHeartbeats 4000000 in
set_option maxRecDepth 100000 in
theorem Find_calls (a0 a1 a2 a3 a4 a5 rcv p q : Int) (A : Option Addr) (cap : Nat) (ls : List S83) (v t k d s e : Int) (r : S26 × Bool) (w : World) (hC : Kd.C k83 w A ls.length ls) (h1 : cover_enter.f 70 a0 a1 a2 a3 a4 a5 [⟨v, t⟩] = some (k, d, s, e)) (hf : e = 0 → findF k v t ls = some r) :
    Calls Try.prog 54 #[.agg #[.int .u8 a0, .int .i64 a1, .int .i64 a2, .int .u64 a3, .int .u64 a4, .int .u64 a5], sv rcv A ls.length cap p q, .agg #[.int .i64 v, .int .i64 t]] w fun e' w' => e' = .returned (.tuple #[kv (findR e r).1, .int .i64 (findR e r).2]) ∧ Below w.heap.size w w' := by
  obtain ⟨W0, hW0⟩ : ∃ W0, ((((w.alloc (.cells #[.int .u8 a0, .int .i64 a1, .int .i64 a2, .int .u64 a3, .int .u64 a4, .int .u64 a5] 45)).alloc (.cells (sc rcv A ls.length cap p q) 76)).alloc (.cells #[.int .i64 v, .int .i64 t] 47)).alloc (.cells (kc z26) 26)) = W0 := ⟨_, rfl⟩
  have B0 := Aside0.mk (show W0.heap[w.heap.size]? = some (.cells #[.int .u8 a0, .int .i64 a1, .int .i64 a2, .int .u64 a3, .int .u64 a4, .int .u64 a5] 45 (0, 0)) by rw [← hW0]; exact (blk_alloc (blk_alloc (blk_alloc (newAt rfl) _) _) _))
  have B1 := Aside0.mk (show W0.heap[w.heap.size + 1]? = some (.cells (sc rcv A ls.length cap p q) 76 (0, 0)) by rw [← hW0]; exact (blk_alloc (blk_alloc (newAt (by simp)) _) _))
  have B2 := Aside0.mk (show W0.heap[w.heap.size + 1 + 1]? = some (.cells #[.int .i64 v, .int .i64 t] 47 (0, 0)) by rw [← hW0]; exact (blk_alloc (newAt (by simp)) _))
  have B3 := Aside0.mk (show W0.heap[w.heap.size + 1 + 1 + 1]? = some (.cells (kc z26) 26 (0, 0)) by rw [← hW0]; exact (newAt (by simp)))
  have BB := Aside0.mk (show Below w.heap.size w W0 by rw [← hW0]; exact (((((Below.refl _ w).alloc (Nat.le_refl _) _).alloc (by simp) _).alloc (by simp; omega) _).alloc (by simp; omega) _))
  have BBs := Aside0.mk (show w.heap.size + 4 = W0.heap.size by rw [← hW0]; simp)
  have HW := Aside0.mk hW0
  clear hW0
  have H1 := Aside0.mk h1
  have HF := Aside0.mk hf
  have HC := Aside0.mk hC
  obtain ⟨R, hR⟩ : ∃ R, R = findR e r := ⟨_, rfl⟩
  rw [← hR]
  have HR := Aside0.mk hR
  clear h1 hf hC hR
  go_enter Try.func54, Try.ntmps54
  go_wp2_with fail
  go_at_call 74
  refine (cover_enter.calls 70 a0 a1 a2 a3 a4 a5 _ _ [⟨v, t⟩] k d s e _ (C_one47 (t := 47) (m := (0, 0)) ?c1) (Nat.le_refl _) H1.out).mono ?_
  case c1 => exact newAt (by simp)
  have e0 := HW.out
  rintro e1 w1 ⟨rfl, hb1⟩
  have hb1' : Below (W0.alloc (.cells #[.int .i64 v, .int .i64 t] 47)).heap.size (W0.alloc (.cells #[.int .i64 v, .int .i64 t] 47)) w1 := by rw [← e0]; exact hb1
  have C1 := Aside0.mk (blk_to (blk_alloc B1.out _) hb1'); have C2 := Aside0.mk (blk_to (blk_alloc B2.out _) hb1'); have C3 := Aside0.mk (blk_to (blk_alloc B3.out _) hb1')
  have CB := Aside0.mk (((BB.out.alloc BB.out.size _).trans (hb1'.mono (by have := BB.out.size; simp; omega))) : Below w.heap.size w w1)
  have hcs : w.heap.size + 4 < w1.heap.size := by have := hb1'.size; have := BBs.out; simp at *; omega
  have CC := Aside0.mk (show Kd.C k83 w1 A ls.length ls from Kd.C_below HC.out CB.out)
  clear hb1 hb1' e0 B0 B1 B2 B3 BB BBs HW HC
  by_cases he : e = 0
  · have b0 : (e != 0) = false := by simp [he]
    have E1 := Aside0.mk (show R = (if r.2 = true then (r.1, 0) else (z26, 6)) from HR.out.trans (if_pos he))
    have HF2 := Aside0.mk (HF.out he)
    clear he HF HR
    go_wp2_with (first
      | ((with_reducible refine ldR rfl rfl (blk_alloc C1.out _) ?_ ?_ ?_); rfl; exact row76)
      | ((with_reducible refine ldR rfl rfl (blk_alloc C2.out _) ?_ ?_ ?_); rfl; exact row47))
    go_at_call 107
    refine (find_calls k d s rcv p q A cap ls v t r _ (Kd.C_below CC.out ((Below.refl _ _).alloc (Nat.le_refl _) _)) HF2.out).mono ?_
    rintro e2 w2 ⟨rfl, hb2⟩
    have D3 := Aside0.mk (blk_to (blk_alloc C3.out _) hb2)
    have DB := Aside0.mk ((CB.out.alloc CB.out.size _).trans (hb2.mono (by simp; omega)))
    obtain ⟨K, ok⟩ := r
    have E2 := Aside0.mk (show R = (if ok = true then (K, 0) else (z26, 6)) from E1.out)
    have hds : w.heap.size + 4 < w2.heap.size := by have := hb2.size; simp at this; omega
    clear hb2 E1 HF2 CC
    cases ok with
    | true =>
      have E3 := Aside0.mk (show R = (K, 0) from E2.out)
      clear E2
      go_wp2_with (first
        | (((with_reducible refine stR rfl rfl (newAt rfl) (kc K) ?_ ?_ ?_ ?_ ?_ ?_); rfl; rfl; exact row26; rfl; rfl; intro W2 P1); have F3 := Aside0.mk (P1.blk (blk_alloc D3.out _) (by omega)); have F1 := Aside0.mk P1.at_; have FB := Aside0.mk (P1.below (DB.out.alloc DB.out.size _) (by omega)); clear P1)
        | ((with_reducible refine ldR rfl rfl F1.out ?_ ?_ ?_); rfl; exact row26)
        | ((with_reducible refine stR rfl rfl F3.out (kc K) ?_ ?_ ?_ ?_ ?_ ?_); rfl; rfl; exact row26; rfl; rfl; intro W3 P2))
      refine bodyPost_ret (ret_key rfl rfl rfl P2.at_) rfl ?_
      exact ⟨by rw [E3.out]; rfl, P2.below FB.out (by omega)⟩
    | false =>
      have E3 := Aside0.mk (show R = (z26, 6) from E2.out)
      clear E2
      go_wp2_with (first
        | (((with_reducible refine stR rfl rfl (newAt rfl) (kc K) ?_ ?_ ?_ ?_ ?_ ?_); rfl; rfl; exact row26; rfl; rfl; intro W2 P1); have F3 := Aside0.mk (P1.blk (blk_alloc D3.out _) (by omega)); have FB := Aside0.mk (P1.below (DB.out.alloc DB.out.size _) (by omega)); clear P1)
        | ((with_reducible refine stR rfl rfl F3.out (kc z26) ?_ ?_ ?_ ?_ ?_ ?_); rfl; rfl; exact row26; rfl; rfl; intro W3 P2))
      refine bodyPost_ret (ret_key rfl rfl rfl P2.at_) rfl ?_
      exact ⟨by rw [E3.out]; rfl, P2.below FB.out (by omega)⟩
  · have E1 := Aside0.mk (show R = (z26, e) from HR.out.trans (if_neg he))
    have b0 : (e != 0) = true := by simp [he]
    clear he HF
    go_wp2_with (first
      | ((with_reducible refine stR rfl rfl (blk_alloc C3.out _) (kc z26) ?_ ?_ ?_ ?_ ?_ ?_); rfl; rfl; exact row26; rfl; rfl; intro W2 P1))
    refine bodyPost_ret (ret_key rfl rfl rfl P1.at_) rfl ?_
    exact ⟨by rw [E1.out]; rfl, P1.below (CB.out.alloc CB.out.size _) (by omega)⟩
end Go.Proofs.Ytafhimeoijmolaa.K
namespace Go.Proofs.Ytafhimeoijmolaa.K
open Go.RowKit Go.Shelf Go.Proofs.Ytafhimeoijmolaa.R9 Go.Proofs.YtafhimeoijmolaaW.PrintWords Go.Proofs.YtafhimeoijmolaaW.PrintLast Go.Proofs.YtafhimeoijmolaaW.PrintMore Go.Proofs.Ytafhimeoijmolaa.G
set_option linter.unusedVariables false
set_option linter.unusedSimpArgs false
attribute [local go_sem] Oper.semAt_some
theorem drop_take_succ {α : Type} (l : List α) (i : Nat) (h : i < l.length) (z : α) : l.take (i + 1) = l.take i ++ [l.getD i z] := by
  rw [List.take_succ_eq_append_getElem h]; simp [h]
theorem at_intsK {w : World} {k : IntKind} {A : Option Addr} {n : Nat} {xs : List Int} (h : Kd.C (Kd.int k) w A n xs) (i : Nat) (h1 : i < n) : ∃ ad, A = some ad ∧ w.cell? (ad.add i) = some (.int k (xs.getD i 0)) := by
  obtain ⟨ad, c, e, _, hK, hc⟩ := Kd.C_get h 0 (i : Int) (by omega) (by omega)
  have e2 : c = [.int k (xs.getD i 0)] := hK
  refine ⟨ad, e, ?_⟩
  have := hc 0 (.int k (xs.getD i 0)) (by rw [e2]; rfl)
  have e3 : (Kd.int k).sz = 1 := rfl
  simpa [e3] using this
def knowF (a v t : Int) : List (Int × Int) → Option Bool
  | [] => some false
  | x :: xs => (leadsF a x.1 x.2 v t).bind fun b => if b = true then some true else knowF a v t xs
theorem knowF_none {a v t : Int} : ∀ {xs : List (Int × Int)}, (∀ y ∈ xs, leadsF a y.1 y.2 v t = some false) → knowF a v t xs = some false
  | [], _ => rfl
  | x :: xs, h => by
    simp only [knowF, h x List.mem_cons_self, Option.bind_some, Bool.false_eq_true, if_false]
    exact knowF_none fun y hy => h y (List.mem_cons_of_mem _ hy)
theorem knowF_found {a v t : Int} {x : Int × Int} (hx : leadsF a x.1 x.2 v t = some true) (r : List (Int × Int)) : ∀ {pre : List (Int × Int)}, (∀ y ∈ pre, leadsF a y.1 y.2 v t = some false) → knowF a v t (pre ++ [x] ++ r) = some true
  | [], _ => by simp [knowF, hx]
  | y :: pre, h => by
    simp only [List.cons_append, knowF, h y List.mem_cons_self, Option.bind_some, Bool.false_eq_true, if_false]
    exact knowF_found hx r fun y hy => h y (List.mem_cons_of_mem _ hy)
set_option maxHeartbeats 4000000 in
set_option maxRecDepth 100000 in
theorem knows1_calls (k d s u v t : Int) (xs : List (Int × Int)) (gT gX : Nat) (r : Bool) (w : World) (hT : w.heap[gT]? = some (.cells #[.int .u8 k, .int .i64 d, .int .i64 s] 134 (0, 0))) (hX : w.heap[gX]? = some (.cells #[.int .i64 v, .int .i64 t] 47 (0, 0)))
    (h3 : labelsF k d s u = some xs) (hl : xs.length ≤ 1000) (hld : ∀ x ∈ xs, ∃ b, leadsF k x.1 x.2 v t = some b) (hr : knowF k v t xs = some r) :
    Calls Try.prog 116 #[.int .i64 u, .pointer (some ⟨gT, 0, none⟩), .pointer (some ⟨gX, 0, none⟩)] w fun e' w' => e' = .returned (.bool r) ∧ Below w.heap.size w w' := by
  obtain ⟨W0, hW0⟩ : ∃ W0, (w.alloc (.cells #[.bool false] 4)) = W0 := ⟨_, rfl⟩
  have B0 := Aside0.mk (show W0.heap[w.heap.size]? = some (.cells #[.bool false] 4 (0, 0)) by rw [← hW0]; exact (newAt rfl))
  have BB := Aside0.mk (show Below w.heap.size w W0 by rw [← hW0]; exact ((Below.refl _ w).alloc (Nat.le_refl _) _))
  have BBs := Aside0.mk (show w.heap.size + 1 = W0.heap.size by rw [← hW0]; simp)
  have HW := Aside0.mk hW0
  clear hW0
  have hTl : gT < w.heap.size := (Array.getElem?_eq_some_iff.1 hT).1
  have hXl : gX < w.heap.size := (Array.getElem?_eq_some_iff.1 hX).1
  have HT := Aside0.mk (blk_to hT BB.out); have HX := Aside0.mk (blk_to hX BB.out)
  have H3 := Aside0.mk h3; have HL := Aside0.mk hl; have HLD := Aside0.mk hld; have HR := Aside0.mk hr; have HT0 := Aside0.mk hT; have HX0 := Aside0.mk hX
  have e0 := HW.out
  clear h3 hl hld hr hT hX
  refine (callsIn_wide (n := 9)).1 ?_
  refine callsIn_of_wp_marks Try.func116 rfl trivial ?_ rfl
  simp only [Try.ntmps116, List.size_toArray, List.length_cons, List.length_nil, Nat.reduceAdd, Nat.reduceSub, Array.replicate_succ, Array.replicate_zero, List.push_toArray, List.append_toArray, List.nil_append, List.cons_append]
  gi_wp2_with (first | ((with_reducible refine ldR_in rfl rfl HT.out ?_ ?_ ?_); rfl; exact row134))
  refine ⟨trivial, (callsIn_wide.2 (labels_calls k d s u _)).mono ?_⟩
  rintro e1 w1 ⟨rfl, rfl⟩
  have hW0 : w.heap.size + 1 = W0.heap.size := BBs.out
  obtain ⟨W1, hW1⟩ : ∃ W1, ((W0.alloc (.cells #[.int .u8 k, .int .i64 d, .int .i64 s] 134)).alloc (.cells #[.int .i64 u] 3)) = W1 := ⟨_, rfl⟩
  have sW1 : W1.heap.size = W0.heap.size + 2 := by rw [← hW1]; simp
  have BT := Aside0.mk (show W1.heap[W0.heap.size]? = some (.cells #[.int .u8 k, .int .i64 d, .int .i64 s] 134 (0, 0)) by rw [← hW1]; exact blk_alloc (newAt rfl) _)
  have BU := Aside0.mk (show Boxed W1 (W0.heap.size + 1) 3 (.int .i64 u) by rw [← hW1]; exact newAt (by simp))
  have BR := Aside0.mk (show Boxed W1 w.heap.size 4 (.bool false) by rw [← hW1]; exact blk_alloc (blk_alloc B0.out _) _)
  have CB := Aside0.mk (show Below w.heap.size w W1 by rw [← hW1]; exact (BB.out.alloc BB.out.size _).alloc (by have := BB.out.size; simp; omega) _)
  have hsz : w.heap.size + 3 = W1.heap.size := by omega
  gi_wp2
  clear hW1 HT HX B0 BB BBs HW e0
  refine wpIn_range9s (P := Try.prog) (gf := 129) (lb := #[.pointer (some ⟨W0.heap.size, 0, none⟩), .pointer (some ⟨W0.heap.size + 1, 0, none⟩)]) rfl (enters_of Try.func129 (by kernel_rfl) rfl)
    (labels_seq9 (9 - 1) (by omega) _ _ k d s u xs H3.out _ BT.out BU.out) (Below.refl _ _) (fun _ => rfl)
    (fun pre W => (∀ y ∈ pre, leadsF k y.1 y.2 v t = some false) ∧ Boxed W w.heap.size 4 (.bool false) ∧ Below w.heap.size w W)
    (fun cd pre W => (cd = .ret ∧ ∃ pre' x, pre = pre' ++ [x] ∧ (∀ y ∈ pre', leadsF k y.1 y.2 v t = some false) ∧ leadsF k x.1 x.2 v t = some true) ∧ Boxed W w.heap.size 4 (.bool true) ∧ Below w.heap.size w W)
    (Own9.and (own9_pure _ _) (Own9.and (own9_boxed 4 (fun _ => .bool false) (.inl (by omega))) (own9_below (Nat.le_refl _) (by omega))))
    (fun cd => Own9.and (own9_pure _ _) (Own9.and (own9_boxed 4 (fun _ => .bool true) (.inl (by omega))) (own9_below (Nat.le_refl _) (by omega))))
    ⟨by simp, BR.out, CB.out⟩ ?round ?done ?stop
  case round =>
    intro l pre x W hpx
    have hxl : x ∈ xs := hpx.subset (by simp)
    obtain ⟨b, hb⟩ := HLD.out x hxl
    have HB := Aside0.mk hb
    clear hxl hpx hb
    simp only [enc2]
    gi_wp2
    refine ⟨trivial, ?_⟩
    rintro W2 ⟨f1, f2, f3⟩
    have T2 := Aside0.mk ((f3.block gT hTl).trans HT0.out); have X2 := Aside0.mk ((f3.block gX hXl).trans HX0.out)
    have F1 := Aside0.mk f1; have F2 := Aside0.mk f2; have F3 := Aside0.mk f3
    clear f1 f2 f3
    gi_wp2_with (first | ((with_reducible refine ldR_in rfl rfl T2.out ?_ ?_ ?_); rfl; exact row134) | ((with_reducible refine ldR_in rfl rfl X2.out ?_ ?_ ?_); rfl; exact row47))
    refine ⟨trivial, (CallsIn.inRound l (callsIn_wide.2 (leads_calls k d s x.1 x.2 z26 v t b HB.out W2))).mono ?_⟩
    rintro e4 w4 ⟨rfl, hb4⟩
    have b2 := boxed_below F2.out hb4
    have c5 := b2.cell
    have f5 := b2.frozen
    have B2 := Aside0.mk b2
    have HB4 := Aside0.mk hb4
    clear b2 hb4
    cases b with
    | true =>
      gi_wp2
      refine ⟨((keepsOthers_below HB4.out).trans (KeepsOthers.setCell _ ⟨w.heap.size, 0, none⟩ _)).from _, ⟨rfl, pre, x, rfl, F1.out, HB.out⟩, B2.out.set _, (F3.out.trans (HB4.out.mono F3.out.size)).setCell (p := ⟨w.heap.size, 0, none⟩) (Nat.le_refl _) _⟩
    | false =>
      gi_wp2
      refine ⟨(keepsOthers_below HB4.out).from _, Kp9.of_below HB4.out, fun y hy => (List.mem_append.1 hy).elim (F1.out y) (fun e => by simp at e; subst e; exact HB.out), B2.out, F3.out.trans (HB4.out.mono F3.out.size)⟩
  case done =>
    rintro D W hD ⟨hne, hcr, hB⟩ hK
    have hc1 := hcr.cell
    have hf1 := hcr.frozen
    have hr0 : r = false := by have := HR.out; rw [knowF_none hne] at this; exact (Option.some.inj this).symm
    subst hr0
    gi_wp2
    have hK' := (KeepsOthers.setCell W ⟨w.heap.size, 0, none⟩ (.bool false)).same D _ hK rfl
    refine ⟨by simp, .inl ⟨_, _, rfl, run_takeDeferred hK', ?_⟩⟩
    have hne2 : some w.heap.size ≠ some D := by intro e; injection e with e; subst e; have := hcr; unfold Boxed at this; rw [this] at hK; cases hK
    have hc5 := ((hcr.set (.bool false)).kept (grownBy_putObj' _ D (.deferred none)) hne2).cell
    refine ⟨.bool false, ?_, rfl, (hB.setCell (p := ⟨w.heap.size, 0, none⟩) (Nat.le_refl _) _).trans (belowK_b (w := w) (Nat.le_refl _) _ D _ _ (by omega) hK' rfl rfl)⟩
    simp [results, Try.f116, go_sem, hc5]
  case stop =>
    rintro D c pre W hD ⟨rest, hpre⟩ ⟨⟨rfl, pre', x, rfl, h1, h2⟩, hcr, hB⟩ hK
    have hr0 : r = true := by have := HR.out; rw [← hpre, knowF_found h2 rest h1] at this; exact (Option.some.inj this).symm
    subst hr0
    gi_wp2
    refine ⟨by simp, .inl ⟨_, _, rfl, run_takeDeferred hK, ?_⟩⟩
    have hne2 : some w.heap.size ≠ some D := by intro e; injection e with e; subst e; have := hcr; unfold Boxed at this; rw [this] at hK; cases hK
    have hc5 := (hcr.kept (grownBy_putObj' _ D (.deferred none)) hne2).cell
    refine ⟨.bool true, ?_, rfl, hB.trans (belowK_b (w := w) (Nat.le_refl _) _ D _ _ (by omega) hK rfl rfl)⟩
    simp [results, Try.f116, go_sem, hc5]
def AsksInt (P : Program) (g : Nat) (lb : Array Value) (p : Int → Bool) (l : List Int) (w : World) : Prop := ∀ (W : World) (x : Int), x ∈ l → Below w.heap.size w W → Calls P g (#[.int .i64 x] ++ lb) W fun e w' => e = .returned (.bool (p x)) ∧ Below w.heap.size w w'
set_option maxHeartbeats 4000000 in
set_option maxRecDepth 100000 in
theorem idx_calls (lb : Array Value) (p : Int → Bool) (A : Option Addr) (c : Nat) (l : List Int) (w : World) (hC : Kd.C (Kd.int .i64) w A l.length l) (hp : AsksInt Try.prog 116 lb p l w) :
    Calls Try.prog 149 #[.slice A l.length c, .func (.func 116) #[] lb] w fun e w' => (∃ n : Int, e = .returned (.int .i64 n) ∧ (decide (n ≥ 0) = l.any p)) ∧ Below w.heap.size w w' := by
  have hl1 : l.length ≤ 9223372036854775807 := hC.2.1
  have eg : ∀ args w, (callFunc 116 args).run Try.prog w = .ok (.enter 116 args) w := enters_of Try.func116 (by kernel_rfl) rfl
  have HC := Aside0.mk hC; have HP := Aside0.mk hp
  clear hC hp
  go_enter Try.func149, Try.ntmps149
  go_wp2
  go_loopg [8, 5] l.length (fun kq v v5 w' => ∃ i : Nat, v = .int .i64 (i : Int) ∧ Aside0 (i + kq = l.length) ∧ Aside0 (∀ y ∈ l.take i, p y = false) ∧ Aside0 (Below w.heap.size w w'))
  case atStart => exact ⟨0, rfl, ⟨by omega⟩, ⟨by simp⟩, ⟨Below.refl _ _⟩⟩
  case round =>
    obtain ⟨i, rfl, HI, HF, HB⟩ := hrel
    have CC := Aside0.mk (Kd.C_below HC.out HB.out)
    by_cases hi : i < l.length
    · have HI' := Aside0.mk hi
      obtain ⟨x, hx⟩ : ∃ x, x = l.getD i 0 := ⟨_, rfl⟩
      obtain ⟨ad, rfl, hc⟩ := at_intsK CC.out i hi
      rw [← hx] at hc
      have HX := Aside0.mk hx
      have b2 : (i : Int) < (l.length : Int) := by omega
      have hxm : x ∈ l := by rw [hx]; simp [hi]
      have HCL := Aside0.mk (HP.out wr x hxm HB.out)
      clear hx hi hxm
      cases hq : p x with
      | true =>
        have HQ := Aside0.mk hq
        have hcall := HCL.out
        rw [hq] at hcall
        clear hq
        go_wp2_with (go_at_fn 116; refine hcall.mono ?_; rintro e w' ⟨rfl, hb'⟩)
        go_ret
        refine ⟨⟨_, rfl, ?_⟩, hb'⟩
        rw [decide_eq_true (by omega)]
        symm
        rw [List.any_eq_true]
        exact ⟨x, by rw [HX.out]; have := HI'.out; simp [this], HQ.out⟩
      | false =>
        have HQ := Aside0.mk hq
        have hcall := HCL.out
        rw [hq] at hcall
        clear hq
        go_wp2_with (go_at_fn 116; refine hcall.mono ?_; rintro e w' ⟨rfl, hb'⟩)
        obtain ⟨gq, rfl⟩ : ∃ gq, gk = gq + 1 := ⟨gk - 1, by have := HI'.out; have := HI.out; omega⟩
        go_roundg gq
        case measure => omega
        case rel =>
          refine ⟨i + 1, by simp, ⟨by have := HI.out; omega⟩, ⟨fun y hy => ?_⟩, ⟨hb'⟩⟩
          rw [drop_take_succ l i HI'.out 0, ← HX.out] at hy
          rcases List.mem_append.1 hy with h | h
          · exact HF.out y h
          · simp at h; subst h; exact HQ.out
    · have hi2 : i = l.length := by have := HI.out; omega
      subst hi2
      have b2 : ¬ ((l.length : Int) < (l.length : Int)) := by omega
      have hf := HF.out
      rw [List.take_length] at hf
      clear hi HI
      go_wp2
      go_ret
      refine ⟨⟨-1, rfl, ?_⟩, HB.out⟩
      rw [decide_eq_false (by omega)]
      symm
      rw [List.any_eq_false]
      exact fun y hy => by rw [hf y hy]; simp
set_option maxHeartbeats 4000000 in
set_option maxRecDepth 100000 in
theorem has_calls (lb : Array Value) (p : Int → Bool) (A : Option Addr) (c : Nat) (l : List Int) (w : World) (hC : Kd.C (Kd.int .i64) w A l.length l) (hp : AsksInt Try.prog 116 lb p l w) :
    Calls Try.prog 115 #[.slice A l.length c, .func (.func 116) #[] lb] w fun e w' => e = .returned (.bool (l.any p)) ∧ Below w.heap.size w w' := by
  have HI := Aside0.mk (idx_calls lb p A c l w hC hp)
  clear hC hp
  go_enter Try.func115, Try.ntmps115
  go_wp2_with fail
  go_at_call 149
  refine HI.out.mono ?_
  rintro e1 w1 ⟨⟨n, rfl, hn⟩, hb1⟩
  have HN := Aside0.mk hn
  clear hn
  go_wp2
  go_ret
  exact ⟨by rw [← HN.out]; rfl, hb1⟩
end Go.Proofs.Ytafhimeoijmolaa.K
namespace Go.Proofs.Ytafhimeoijmolaa.K
open Go.RowKit Go.Shelf Go.Proofs.Ytafhimeoijmolaa.R9 Go.Proofs.YtafhimeoijmolaaW.PrintWords Go.Proofs.YtafhimeoijmolaaW.PrintLast Go.Proofs.YtafhimeoijmolaaW.PrintMore Go.Proofs.Ytafhimeoijmolaa.G
set_option linter.unusedVariables false
set_option linter.unusedSimpArgs false
attribute [local go_sem] Oper.semAt_some
theorem ret_two {fn : Func} {tmps : Array Value} {W : World} {p u : Tmp} {x y : Value} (h : fn.results = [ResultVar.tmp p, ResultVar.tmp u].toArray) (hp : tmps.getD p undef = x) (hu : tmps.getD u undef = y) : (results fn tmps).run Try.prog W = .ok (.tuple #[x, y]) W := by
  subst hp; subst hu
  exact results_list (rs := [.tmp p, .tmp u]) h (by simp) (.tmp (.tmp .nil))
def knowsR (e : Int) (okL okS r : Bool) : Bool × Int := if e = 0 then (if okL = true then (if okS = true then (r, 0) else (false, 31)) else (false, 2)) else (false, e)
set_option maxHeartbeats 4000000 in
set_option maxRecDepth 100000 in
theorem Knows_calls (a0 a1 a2 a3 a4 a5 v t k d s e : Int) (A : Option Addr) (c : Nat) (l : List Int) (okL okS : Bool) (p : Int → Bool) (kk k2 : Nat) (w : World) (hC : Kd.C (Kd.int .i64) w A l.length l) (hlc : l.length ≤ c)
    (h1 : cover_enter.f 70 a0 a1 a2 a3 a4 a5 [] = some (k, d, s, e)) (h2 : e = 0 → cover_tree_list.f kk k d s l = some okL) (h3 : e = 0 → okL = true → cover_tree_subset.f k2 k d s v t = some okS)
    (hp : e = 0 → okL = true → okS = true → ∀ u ∈ l, ∃ xs, labelsF k d s u = some xs ∧ xs.length ≤ 1000 ∧ (∀ x ∈ xs, ∃ b, leadsF k x.1 x.2 v t = some b) ∧ knowF k v t xs = some (p u)) :
    Calls Try.prog 57 #[.agg #[.int .u8 a0, .int .i64 a1, .int .i64 a2, .int .u64 a3, .int .u64 a4, .int .u64 a5], .slice A l.length c, .agg #[.int .i64 v, .int .i64 t]] w fun e' w' => e' = .returned (.tuple #[.bool (knowsR e okL okS (l.any p)).1, .int .i64 (knowsR e okL okS (l.any p)).2]) ∧ Below w.heap.size w w' := by
  obtain ⟨W0, hW0⟩ : ∃ W0, ((w.alloc (.cells #[.int .u8 a0, .int .i64 a1, .int .i64 a2, .int .u64 a3, .int .u64 a4, .int .u64 a5] 45)).alloc (.cells #[.int .i64 v, .int .i64 t] 47)) = W0 := ⟨_, rfl⟩
  have B0 := Aside0.mk (show W0.heap[w.heap.size]? = some (.cells #[.int .u8 a0, .int .i64 a1, .int .i64 a2, .int .u64 a3, .int .u64 a4, .int .u64 a5] 45 (0, 0)) by rw [← hW0]; exact (blk_alloc (newAt rfl) _))
  have B1 := Aside0.mk (show W0.heap[w.heap.size + 1]? = some (.cells #[.int .i64 v, .int .i64 t] 47 (0, 0)) by rw [← hW0]; exact (newAt (by simp)))
  have BB := Aside0.mk (show Below w.heap.size w W0 by rw [← hW0]; exact (((Below.refl _ w).alloc (Nat.le_refl _) _).alloc (by simp) _))
  have BBs := Aside0.mk (show w.heap.size + 2 = W0.heap.size by rw [← hW0]; simp)
  have HW := Aside0.mk hW0
  clear hW0
  have H1 := Aside0.mk h1; have H2 := Aside0.mk h2; have H3 := Aside0.mk h3; have HP := Aside0.mk hp; have HC := Aside0.mk hC; have HLC := Aside0.mk hlc
  obtain ⟨R, hR⟩ : ∃ R, R = knowsR e okL okS (l.any p) := ⟨_, rfl⟩
  rw [← hR]
  have HR := Aside0.mk hR
  clear h1 h2 h3 hp hC hlc hR
  go_enter Try.func57, Try.ntmps57
  go_upto_region 1 with (fail)
  show Code.wp _ _ _ _ ((w.alloc (.cells #[.int .u8 a0, .int .i64 a1, .int .i64 a2, .int .u64 a3, .int .u64 a4, .int .u64 a5] 45)).alloc (.cells #[.int .i64 v, .int .i64 t] 47))
  rw [HW.out]
  go_wp2_with (first | ((with_reducible refine ldR rfl rfl B0.out ?_ ?_ ?_); rfl; exact row45))
  go_at_call 74
  refine (cover_enter.calls 70 a0 a1 a2 a3 a4 a5 none 0 [] k d s e _ (C_nil' _ _) (Nat.le_refl _) H1.out).mono ?_
  rintro e1 w1 ⟨rfl, hb1⟩
  have C1 := Aside0.mk (blk_to B1.out hb1)
  have CB := Aside0.mk (BB.out.trans (hb1.mono BB.out.size))
  have hcs : w.heap.size + 2 ≤ w1.heap.size := by have := hb1.size; have := BBs.out; omega
  clear hb1 B0 B1 BB BBs HW H1
  by_cases he : e = 0
  case neg =>
    have b0 : (e != 0) = true := by simp [he]
    have E1 := Aside0.mk (show R = (false, e) from HR.out.trans (if_neg he))
    clear he H2 H3 HP
    go_wp2_with fail
    refine bodyPost_ret (ret_two rfl rfl rfl) rfl ?_
    exact ⟨by rw [E1.out]; rfl, CB.out.alloc CB.out.size _⟩
  have b0 : (e != 0) = false := by simp [he]
  have E1 := Aside0.mk (show R = (if okL = true then (if okS = true then (l.any p, 0) else (false, 31)) else (false, 2)) from HR.out.trans (if_pos he))
  have K2 := Aside0.mk (H2.out he); have K3 := Aside0.mk (H3.out he); have KP := Aside0.mk (HP.out he)
  clear H2 H3 HP HR
  subst he
  go_upto_region 2 with (fail)
  obtain ⟨W1, hW1⟩ : ∃ W1, w1.alloc (.cells #[.int .u8 k, .int .i64 d, .int .i64 s] 134) = W1 := ⟨_, rfl⟩
  show Code.wp _ _ _ _ (w1.alloc (.cells #[.int .u8 k, .int .i64 d, .int .i64 s] 134))
  rw [hW1]
  have DT := Aside0.mk (show W1.heap[w1.heap.size]? = some (.cells #[.int .u8 k, .int .i64 d, .int .i64 s] 134 (0, 0)) by rw [← hW1]; exact newAt rfl)
  have D1 := Aside0.mk (blk_id (blk_alloc C1.out _) hW1.symm)
  have DB := Aside0.mk (show Below w.heap.size w W1 by rw [← hW1]; exact CB.out.alloc CB.out.size _)
  clear hW1 C1 CB
  go_wp2_with (first | ((with_reducible refine ldR rfl rfl DT.out ?_ ?_ ?_); rfl; exact row134))
  go_at_call 99
  refine (cover_tree_list.calls kk k d s A c l okL _ (Kd.C_below HC.out DB.out) HLC.out K2.out).mono ?_
  rintro e2 w2 ⟨rfl, hb2⟩
  have ET := Aside0.mk (blk_to DT.out hb2); have E2 := Aside0.mk (blk_to D1.out hb2)
  have EB := Aside0.mk (DB.out.trans (hb2.mono DB.out.size))
  clear hb2 DT D1 DB
  cases okL with
  | false =>
    have E3 := Aside0.mk (show R = (false, 2) from E1.out)
    go_wp2_with fail
    refine bodyPost_ret (ret_two rfl rfl rfl) rfl ?_
    exact ⟨by rw [E3.out]; rfl, EB.out⟩
  | true =>
    have E3 := Aside0.mk (show R = (if okS = true then (l.any p, 0) else (false, 31)) from E1.out)
    have K3' := Aside0.mk (K3.out rfl); have KP' := Aside0.mk (KP.out rfl)
    clear E1 K3 KP
    go_wp2_with (first | ((with_reducible refine ldR rfl rfl ET.out ?_ ?_ ?_); rfl; exact row134) | ((with_reducible refine ldR rfl rfl E2.out ?_ ?_ ?_); rfl; exact row47))
    go_at_call 79
    refine (cover_tree_subset.calls k2 k d s v t okS _ K3'.out).mono ?_
    rintro e3 w3 ⟨rfl, hb3⟩
    have FT := Aside0.mk (blk_to ET.out hb3); have F2 := Aside0.mk (blk_to E2.out hb3)
    have FB := Aside0.mk (EB.out.trans (hb3.mono EB.out.size))
    clear hb3 ET E2 EB
    cases okS with
    | false =>
      have E4 := Aside0.mk (show R = (false, 31) from E3.out)
      go_wp2_with fail
      refine bodyPost_ret (ret_two rfl rfl rfl) rfl ?_
      exact ⟨by rw [E4.out]; rfl, FB.out⟩
    | true =>
      have E4 := Aside0.mk (show R = (l.any p, 0) from E3.out)
      have KQ := Aside0.mk (KP'.out rfl)
      clear E3 KP'
      go_wp2_with fail
      go_at_call 115
      refine (has_calls _ p A c l _ (Kd.C_below HC.out FB.out) ?_).mono ?_
      · intro W u hu hB
        obtain ⟨xs, h1, h2, h3, h4⟩ := KQ.out u hu
        have h := knows1_calls k d s u v t xs w1.heap.size (w.heap.size + 1) (p u) W (blk_to FT.out hB) (blk_to F2.out hB) h1 h2 h3 h4
        exact h.mono fun e' w' h => ⟨h.1, hB.trans (h.2.mono hB.size)⟩
      rintro e4 w4 ⟨rfl, hb4⟩
      go_wp2
      refine bodyPost_ret (ret_two rfl rfl rfl) rfl ?_
      exact ⟨by rw [E4.out]; rfl, FB.out.trans (hb4.mono FB.out.size)⟩
end Go.Proofs.Ytafhimeoijmolaa.K
