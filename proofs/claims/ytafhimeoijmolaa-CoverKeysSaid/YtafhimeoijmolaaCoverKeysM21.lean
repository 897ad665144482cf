/- Texts of this claim, one behind the other, as far as they are used: M17. -/
import Derived.Test.YtafhimeoijmolaaCoverKeysM17
import Derived.Test.YtafhimeoijmolaaCoverKeysM20
namespace Go.Proofs.Ytafhimeoijmolaa.K
open Go.RowKit  Go.Proofs.YtafhimeoijmolaaW.PrintWords Go.Proofs.YtafhimeoijmolaaW.PrintLast Go.Proofs.YtafhimeoijmolaaW.PrintMore Go.Proofs.Ytafhimeoijmolaa.G
set_option linter.unusedVariables false
set_option linter.unusedSimpArgs false
theorem subKey_both (root : S26) (hk : KOK root) (a0 a1 a2 a3 a4 a5 v t : Int) : ∃ rk : S26 × Int,
    (∀ w, Calls Try.prog 52 #[kv root, .agg #[.int .u8 a0, .int .i64 a1, .int .i64 a2, .int .u64 a3, .int .u64 a4, .int .u64 a5], .agg #[.int .i64 v, .int .i64 t]] w fun e' w' => e' = .returned (.tuple #[kv rk.1, .int .i64 rk.2]) ∧ Below w.heap.size w w') ∧
    (∀ w, Calls Try.prog 53 #[kv root, .agg #[.int .u8 a0, .int .i64 a1, .int .i64 a2, .int .u64 a3, .int .u64 a4, .int .u64 a5], .agg #[.int .i64 v, .int .i64 t]] w fun e' w' => e' = .returned (.tuple #[kv rk.1, .int .i64 rk.2]) ∧ Below w.heap.size w w') := by
  by_cases hv : ValidI a0 a1 a2 a3 a4 a5
  · obtain ⟨a, d, rfl, rfl, ha, ha3, hd, rfl, rfl, rfl, rfl⟩ := hv.nat
    have he := enter_one (k := 70) v t ha ha3 hd (by omega)
    have hr := rSubset_n v t 0 0 0 0 ha ha3 hd (Nat.le_refl 31)
    cases hs : subI a d v t with
    | true =>
      rw [hs] at hr
      rw [if_pos hs] at he
      have hx : (a : Int) ≠ 1 → t ≠ 0 → PathR v t ((pathF 9 v t).getD []) ∧ pathF 9 v t = some ((pathF 9 v t).getD []) := fun h1 h2 => by
        obtain ⟨xs, h3, h4⟩ := sub_path (x := ⟨v, t⟩) ha ha3 hd hs h1 h2
        rw [h3]
        exact ⟨h4, rfl⟩
      refine ⟨(keyI a v t ((pathF 9 v t).getD []) root, 0), fun w => ?_, fun w => ?_⟩
      · exact SubsetKey_calls root a d 0 0 0 0 v t a d (strd d) 0 ((pathF 9 v t).getD []) 9 he (fun _ h1 h2 => (hx h1 h2).2) w
      · exact rSubsetKey_calls root hk a d 0 0 0 0 v t true true 31 ((pathF 9 v t).getD []) w (rValid_good ha ha3 hd) (fun _ => hr) (fun _ _ h1 h2 => (hx h1 h2).1)
    | false =>
      rw [hs] at hr
      rw [if_neg (by rw [hs]; simp)] at he
      refine ⟨(z26, 31), fun w => ?_, fun w => ?_⟩
      · exact SubsetKey_calls root a d 0 0 0 0 v t 0 0 0 31 [] 9 he (fun h => by cases h) w
      · exact rSubsetKey_calls root hk a d 0 0 0 0 v t true false 31 [] w (rValid_good ha ha3 hd) (fun _ => hr) (fun _ h => by cases h)
  · refine ⟨(z26, 30), fun w => ?_, fun w => ?_⟩
    · exact SubsetKey_calls root a0 a1 a2 a3 a4 a5 v t 0 0 0 30 [] 9 (enter_bad _ hv (by omega)) (fun h => by cases h) w
    · exact rSubsetKey_calls root hk a0 a1 a2 a3 a4 a5 v t false false 31 [] w (rValid_bad hv) (fun h => by cases h) (fun h => by cases h)
theorem find_both (a0 a1 a2 a3 a4 a5 rcv p q v t : Int) (ls : List S83) (hl : ∀ l ∈ ls, KOK l.f2 ∧ I64 l.f1) : ∃ rf : S26 × Int,
    (∀ (LA : Option Addr) (cap : Nat) w, Kd.C k83 w LA ls.length ls → Calls Try.prog 54 #[.agg #[.int .u8 a0, .int .i64 a1, .int .i64 a2, .int .u64 a3, .int .u64 a4, .int .u64 a5], sv rcv LA ls.length cap p q, .agg #[.int .i64 v, .int .i64 t]] w fun e' w' => e' = .returned (.tuple #[kv rf.1, .int .i64 rf.2]) ∧ Below w.heap.size w w') ∧
    (∀ (LA : Option Addr) (cap : Nat) w, Kd.C k83 w LA ls.length ls → Calls Try.prog 55 #[.agg #[.int .u8 a0, .int .i64 a1, .int .i64 a2, .int .u64 a3, .int .u64 a4, .int .u64 a5], sv rcv LA ls.length cap p q, .agg #[.int .i64 v, .int .i64 t]] w fun e' w' => e' = .returned (.tuple #[kv rf.1, .int .i64 rf.2]) ∧ Below w.heap.size w w') := by
  by_cases hv : ValidI a0 a1 a2 a3 a4 a5
  · obtain ⟨a, d, rfl, rfl, ha, ha3, hd, rfl, rfl, rfl, rfl⟩ := hv.nat
    have he := enter_one (k := 70) v t ha ha3 hd (by omega)
    have hr := rSubset_n v t 0 0 0 0 ha ha3 hd (Nat.le_refl 31)
    cases hs : subI a d v t with
    | true =>
      rw [hs] at hr
      rw [if_pos hs] at he
      obtain ⟨r, hf⟩ := findF_total ha ha3 hd hs ls (fun l h => (hl l h).2)
      refine ⟨findR 0 r, fun LA cap w hC => ?_, fun LA cap w hC => ?_⟩
      · exact Find_calls a d 0 0 0 0 rcv p q LA cap ls v t a d (strd d) 0 r w hC he (fun _ => hf)
      · exact rFind_calls a d 0 0 0 0 rcv p q v t LA cap ls true true 31 r w hC (rValid_good ha ha3 hd) (fun _ => hr) (fun _ _ => ⟨labOK_n ha ha3 hd hs hl, hf⟩)
    | false =>
      rw [hs] at hr
      rw [if_neg (by rw [hs]; simp)] at he
      refine ⟨(z26, 31), fun LA cap w hC => ?_, fun LA cap w hC => ?_⟩
      · exact Find_calls a d 0 0 0 0 rcv p q LA cap ls v t 0 0 0 31 (z26, false) w hC he (fun h => by cases h)
      · exact rFind_calls a d 0 0 0 0 rcv p q v t LA cap ls true false 31 (z26, false) w hC (rValid_good ha ha3 hd) (fun _ => hr) (fun _ h => by cases h)
  · refine ⟨(z26, 30), fun LA cap w hC => ?_, fun LA cap w hC => ?_⟩
    · exact Find_calls a0 a1 a2 a3 a4 a5 rcv p q LA cap ls v t 0 0 0 30 (z26, false) w hC (enter_bad _ hv (by omega)) (fun h => by cases h)
    · exact rFind_calls a0 a1 a2 a3 a4 a5 rcv p q v t LA cap ls false false 31 (z26, false) w hC (rValid_bad hv) (fun h => by cases h) (fun h => by cases h)
theorem lab_leads {a d u v t : Nat} (ha : 1 ≤ a) (ha3 : a ≤ 3) (hd : d ≤ 6) (hu : u < 2 ^ d) (hs : subI a d (v : Int) (t : Int) = true) :
    ∃ (l : List S47) (p : Int × Int → Bool), labelsF (a : Int) (d : Int) (strd d : Int) (u : Int) = some (l.map (fun y => (y.f0, y.f1))) ∧ headendref03_LabelsOf.f 100 (a : Int) (d : Int) 0 0 0 0 (u : Int) = some l ∧ l.length ≤ 64 ∧
      (∀ y ∈ l, leadsF (a : Int) y.f0 y.f1 (v : Int) (t : Int) = some (p (y.f0, y.f1))) ∧ (∀ y ∈ l, headendref03_leads.f 100 (a : Int) (d : Int) 0 0 0 0 y.f0 y.f1 (v : Int) (t : Int) = some (p (y.f0, y.f1))) ∧
      l.any (fun y => p (y.f0, y.f1)) = memN d v t u ∧ (∀ y ∈ l, p (y.f0, y.f1) = true → ∃ m : Nat, y.f1 = m ∧ m < 128 ∧ leadsN a v m v t = true) := by
  obtain ⟨xs, l, e1, e2, h3, h4, h5⟩ := lab_n ha ha3 hd hu
  obtain ⟨e6, h7⟩ := labelsN_n ha ha3 hd hu
  have ex : xs = (labelsN a d u).map castP := Option.some.inj (e1.symm.trans e6)
  have ht : t < 128 := by
    obtain ⟨n', m', q1, q2, _, _, _, _, q3⟩ := subI_nat ha hd hs
    omega
  have hmem : ∀ y ∈ l, ∃ x ∈ labelsN a d u, y.f0 = (x.1 : Int) ∧ y.f1 = (x.2 : Int) := fun y hy => by
    have : (y.f0, y.f1) ∈ xs := by rw [h4]; exact List.mem_map.2 ⟨y, hy, rfl⟩
    rw [ex] at this
    obtain ⟨x, hx, e⟩ := List.mem_map.1 this
    unfold castP at e
    simp only [Prod.mk.injEq] at e
    exact ⟨x, hx, e.1.symm, e.2.symm⟩
  have hleads : ∀ y ∈ l, leadsF (a : Int) y.f0 y.f1 (v : Int) (t : Int) = some (leadsN a y.f0.toNat y.f1.toNat v t) := fun y hy => by
    obtain ⟨x, hx, q1, q2⟩ := hmem y hy
    rw [q1, q2, Int.toNat_natCast, Int.toNat_natCast]
    exact leadsN_n (h7 x hx).1 (h7 x hx).2 ht
  refine ⟨l, fun x => leadsN a x.1.toNat x.2.toNat v t, by rw [e1, h4], e2, by rw [h4, List.length_map] at h3; exact h3, hleads, fun y hy => ?_, ?_, fun y hy hp => ?_⟩
  · obtain ⟨x, hx, q1, q2⟩ := hmem y hy
    obtain ⟨b, g1, g2, _⟩ := leads_n (n := y.f0) (m := y.f1) ha ha3 hd hs (by rw [q2]; unfold I64; have := (h7 x hx).2; omega)
    rw [g2, ← g1, hleads y hy]
  · rw [← leads_member ha ha3 hd hu hs]
    have : l.any (fun y => leadsN a (y.f0, y.f1).1.toNat (y.f0, y.f1).2.toNat v t) = xs.any (fun x => leadsN a x.1.toNat x.2.toNat v t) := by rw [h4, List.any_map]; rfl
    rw [this, ex, List.any_map]
    rfl
  · obtain ⟨x, hx, q1, q2⟩ := hmem y hy
    refine ⟨x.2, q2, (h7 x hx).2, ?_⟩
    have h8 : leadsN a x.1 x.2 v t = true := by
      have := hp
      simp only [q1, q2, Int.toNat_natCast] at this
      exact this
    have h9 : x.1 = v := by
      unfold leadsN at h8
      simp only [Bool.and_eq_true] at h8
      exact Nat.eq_of_beq_eq_true h8.1
    rw [h9] at h8
    exact h8
theorem nodesTo_len (v w : Nat) : (nodesTo v w).length = Nat.log2 w - Nat.log2 v := by unfold nodesTo; simp
set_option maxRecDepth 100000 in
theorem log_le_fin : all2 128 128 (fun w v => !blw w v || (Nat.ble (Nat.log2 v) (Nat.log2 w) && Nat.ble (Nat.log2 w) 6)) = true := by kernel_rfl
theorem log_le {w v : Nat} (hw : w < 128) (hv : v < 128) (h : blw w v = true) : Nat.log2 v ≤ Nat.log2 w ∧ Nat.log2 w ≤ 6 := by
  have h1 := all2_at log_le_fin hw hv
  rw [h] at h1
  simp only [Bool.not_true, Bool.false_or, Bool.and_eq_true] at h1
  exact ⟨Nat.le_of_ble_eq_true h1.1, Nat.le_of_ble_eq_true h1.2⟩
theorem work_both (a0 a1 a2 a3 a4 a5 u v t : Int) : ∃ rw_ : Int × Int,
    (∀ w, Calls Try.prog 47 #[.agg #[.int .u8 a0, .int .i64 a1, .int .i64 a2, .int .u64 a3, .int .u64 a4, .int .u64 a5], .int .i64 u, .agg #[.int .i64 v, .int .i64 t]] w fun e' w' => e' = .returned (.tuple #[.int .i64 rw_.1, .int .i64 rw_.2]) ∧ Below w.heap.size w w') ∧
    (∀ w, Calls Try.prog 56 #[.agg #[.int .u8 a0, .int .i64 a1, .int .i64 a2, .int .u64 a3, .int .u64 a4, .int .u64 a5], .int .i64 u, .agg #[.int .i64 v, .int .i64 t]] w fun e' w' => e' = .returned (.tuple #[.int .i64 rw_.1, .int .i64 rw_.2]) ∧ Below w.heap.size w w') := by
  by_cases hv : ValidI a0 a1 a2 a3 a4 a5
  · obtain ⟨a, d, rfl, rfl, ha, ha3, hd, rfl, rfl, rfl, rfl⟩ := hv.nat
    have he := enter_nil (k := 70) ha ha3 hd (by omega)
    have hs1 := subset_n v t ha ha3 hd (Nat.le_refl 4)
    have hs2 := rSubset_n v t 0 0 0 0 ha ha3 hd (show 31 ≤ 300 by omega)
    by_cases hu : 0 ≤ u ∧ u < ((2 ^ d : Nat) : Int)
    case neg =>
      refine ⟨(0, 2), fun w => ?_, fun w => ?_⟩
      · exact Work_calls a d 0 0 0 0 u v t a d (strd d) 0 false true (0, 0) 4 w he (fun _ => by rw [recv_p _ _ _ hd, decide_eq_false hu]) (fun _ h => by cases h) (fun _ h => by cases h)
      · exact rWork_calls a d 0 0 0 0 u v t true false true true _ 100 [] 0 [] w (rValid_good ha ha3 hd) (fun _ => by rw [recv_r _ hd, decide_eq_false hu]) (fun _ h => by cases h) (fun _ h => by cases h) rfl (fun _ h => by cases h)
    obtain ⟨n, rfl⟩ : ∃ n : Nat, u = (n : Int) := ⟨u.toNat, by omega⟩
    have hn : n < 2 ^ d := by have := hu.2; omega
    have hr1 : cover_tree_receiver.f (a : Int) (d : Int) (strd d : Int) (n : Int) = some true := by rw [recv_p _ _ _ hd, decide_eq_true hu]
    have hr2 : headendref03_receiver.f 100 (d : Int) (n : Int) = some true := by rw [recv_r _ hd, decide_eq_true hu]
    cases hs : subI a d v t with
    | false =>
      rw [hs] at hs1 hs2
      refine ⟨(0, 31), fun w => ?_, fun w => ?_⟩
      · exact Work_calls a d 0 0 0 0 n v t a d (strd d) 0 true false (0, 0) 4 w he (fun _ => hr1) (fun _ _ => hs1) (fun _ _ h => by cases h)
      · exact rWork_calls a d 0 0 0 0 n v t true true false true _ 300 [] 0 [] w (rValid_good ha ha3 hd) (fun _ => up (fun k => headendref03_receiver.mono _ _ k) hr2 (by omega)) (fun _ _ => hs2) (fun _ _ h => by cases h) rfl (fun _ _ h => by cases h)
    | true =>
      rw [hs] at hs1 hs2
      obtain ⟨v', t', rfl, rfl, hv1, hv2, hvl, _, htl⟩ := subI_nat ha hd hs
      obtain ⟨l, p, g1, g2, g3, g4, g5, g6, g7⟩ := lab_leads ha ha3 hd hn hs
      have hp' : ∀ x ∈ l.map (fun y => (y.f0, y.f1)), leadsF (a : Int) x.1 x.2 (v' : Int) (t' : Int) = some (p x) := fun x hx => by
        obtain ⟨y, hy, rfl⟩ := List.mem_map.1 hx
        exact g4 y hy
      have hhas : headendref03_Has.f 300 (a : Int) (d : Int) 0 0 0 0 (v' : Int) (t' : Int) (n : Int) = some (memN d v' t' n) := rHas_n _ _ _ _ _ hd hv1 hvl htl hn (by omega)
      have hany : (l.map (fun y => (y.f0, y.f1))).any p = memN d v' t' n := by rw [List.any_map]; exact g6
      have hR : headendref03_receiver.f 300 (d : Int) (n : Int) = some true := up (fun k => headendref03_receiver.mono _ _ k) hr2 (by omega)
      have hL : headendref03_LabelsOf.f 300 (a : Int) (d : Int) 0 0 0 0 (n : Int) = some l := up (fun k => headendref03_LabelsOf.mono _ _ _ _ _ _ _ k) g2 (by omega)
      have hK : headendref03_Known.f 300 (a : Int) (d : Int) 0 0 0 0 (n : Int) (v' : Int) (t' : Int) = some (idxF (fun y : S47 => p (y.f0, y.f1)) 0 l) := by
        unfold headendref03_Known.f
        rw [hL, Option.bind_some]
        have := known_loop a d 0 0 0 0 v' t' (fun y : S47 => p (y.f0, y.f1)) l (by omega) g5 l.length 0 300 (by omega) (by omega)
        exact this
      cases hm : memN d v' t' n with
      | false =>
        rw [hm] at hhas hany
        refine ⟨(0, 6), fun w => ?_, fun w => ?_⟩
        · exact Work_calls a d 0 0 0 0 n v' t' a d (strd d) 0 true true (0, 6) 4 w he (fun _ => hr1) (fun _ _ => hs1) (fun _ _ _ => ⟨_, g1, by rw [List.length_map]; omega, workF_none _ _ _ p _ hp' hany⟩)
        · exact rWork_calls a d 0 0 0 0 n v' t' true true true false _ 300 l 0 [] w (rValid_good ha ha3 hd) (fun _ => hR) (fun _ _ => hs2) (fun _ _ _ => hhas) rfl (fun _ _ _ h => by cases h)
      | true =>
        rw [hm] at hhas hany g6
        obtain ⟨j, hj, ej, pj⟩ := idxF_found (fun y : S47 => p (y.f0, y.f1)) z47 l 0 g6
        obtain ⟨y, hy⟩ : ∃ y, y = l.getD j z47 := ⟨_, rfl⟩
        rw [← hy] at pj
        have hym : y ∈ l := by rw [hy]; simp [hj]
        obtain ⟨m, em, hm128, hlead⟩ := g7 y hym pj
        have hgd : (l.map (fun y => (y.f0, y.f1))).getD j (z47.f0, z47.f1) = (y.f0, y.f1) := by rw [hy]; simp [hj]
        have hwk : workF (a : Int) (v' : Int) (t' : Int) (l.map (fun y => (y.f0, y.f1))) = workAt (t' : Int) (m : Int) := by
          rw [workF_some _ _ _ p (z47.f0, z47.f1) _ 0 hp' j (by simpa using hj) (by rw [idxF_map]; exact ej), hgd, em]
        by_cases htr : (a : Int) = 1 ∨ (t' : Int) = 0
        · have hm0 : m = 0 := by
            unfold leadsN at hlead
            rw [Nat.beq_refl, Bool.true_and, if_pos (by omega)] at hlead
            have h1 := Nat.eq_of_beq_eq_true hlead
            have h2 := (subN_iff.1 hs).2.2
            by_cases h3 : a = 1
            · rw [if_pos h3] at h2; omega
            · omega
          refine ⟨(0, 0), fun w => ?_, fun w => ?_⟩
          · exact Work_calls a d 0 0 0 0 n v' t' a d (strd d) 0 true true (0, 0) 4 w he (fun _ => hr1) (fun _ _ => hs1) (fun _ _ _ => ⟨_, g1, by rw [List.length_map]; omega, by rw [hwk, hm0]; rfl⟩)
          · have h := rWork_calls a d 0 0 0 0 n v' t' true true true true true 300 l 0 [] w (rValid_good ha ha3 hd) (fun _ => hR) (fun _ _ => hs2) (fun _ _ _ => hhas) (by rw [decide_eq_true htr]) (fun _ _ _ _ h => by cases h)
            exact h
        · unfold leadsN at hlead
          rw [Nat.beq_refl, Bool.true_and, if_neg (by omega)] at hlead
          simp only [Bool.and_eq_true] at hlead
          have hm1 : 1 ≤ m := (blw_parts hlead.2).1
          obtain ⟨q1, q2⟩ := log_le htl hm128 hlead.2
          have ht1 : 1 ≤ t' := by have := (blw_parts hlead.2).2.1; omega
          have hwv : workAt (t' : Int) (m : Int) = some ((((m :: nodesTo m t').map Int.ofNat).length : Int), 0) := by
            unfold workAt
            rw [if_neg (by omega), level_n ht1 (by omega), Option.bind_some, level_n hm1 (by omega), Option.bind_some]
            rw [List.length_map, List.length_cons, nodesTo_len]
            have e1 : wrap64 ((Nat.log2 t' : Int) - (Nat.log2 m : Int)) = (Nat.log2 t' : Int) - (Nat.log2 m : Int) := by unfold wrap64; omega
            rw [e1]
            have e2 : wrap64 ((Nat.log2 t' : Int) - (Nat.log2 m : Int) + 1) = ((Nat.log2 t' - Nat.log2 m + 1 : Nat) : Int) := by unfold wrap64; omega
            rw [e2]
          refine ⟨((((m :: nodesTo m t').map Int.ofNat).length : Int), 0), fun w => ?_, fun w => ?_⟩
          · exact Work_calls a d 0 0 0 0 n v' t' a d (strd d) 0 true true _ 4 w he (fun _ => hr1) (fun _ _ => hs1) (fun _ _ _ => ⟨_, g1, by rw [List.length_map]; omega, by rw [hwk]; exact hwv⟩)
          · have h := rWork_calls a d 0 0 0 0 n v' t' true true true true false 300 l j ((m :: nodesTo m t').map Int.ofNat) w (rValid_good ha ha3 hd) (fun _ => hR) (fun _ _ => hs2) (fun _ _ _ => hhas) (by rw [decide_eq_false htr])
              (fun _ _ _ _ _ => ⟨hL, by rw [hK, ej]; simp, hj, by rw [← hy, em]; exact rPath_n hm128 htl hlead.2 (by omega)⟩)
            exact h
  · refine ⟨(0, 30), fun w => ?_, fun w => ?_⟩
    · exact Work_calls a0 a1 a2 a3 a4 a5 u v t 0 0 0 30 false true (0, 0) 4 w (enter_bad [] hv (by omega)) (fun h => by cases h) (fun h => by cases h) (fun h => by cases h)
    · exact rWork_calls a0 a1 a2 a3 a4 a5 u v t false true true true _ 100 [] 0 [] w (rValid_bad hv) (fun h => by cases h) (fun h => by cases h) (fun h => by cases h) rfl (fun h => by cases h)
end Go.Proofs.Ytafhimeoijmolaa.K
