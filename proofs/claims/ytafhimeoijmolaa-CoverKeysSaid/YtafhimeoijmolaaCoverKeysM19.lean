/- Texts of this claim, one behind the other, as far as they are used: K6, K7, K8, KA, X158, Z141, Z136, X137, Z138, KB, KC, KD, KE. -/
import Derived.Lib.EndianBits
import Derived.Laws.Bits64
import Derived.Laws.Bits64b
import Derived.Deep.RegionWith
import Derived.Deep.QuietTactic
import Derived.BigQuiet
import Derived.Test.YtafhimeoijmolaaCoverKeysM2
import Derived.Test.YtafhimeoijmolaaCoverKeysM4
import Derived.Test.YtafhimeoijmolaaCoverKeysM14
import Derived.Test.YtafhimeoijmolaaCoverKeysM15
namespace Go.Proofs.Ytafhimeoijmolaa.K
open Go.RowKit Go.Proofs.YtafhimeoijmolaaW.PrintWords Go.Proofs.YtafhimeoijmolaaW.PrintMore Go.Proofs.Ytafhimeoijmolaa.G
set_option linter.unusedVariables false
def KOK (k : S26) : Prop := ∀ b ∈ bytesOf k, 0 ≤ b ∧ b < 256
def WOK (x : Int) : Prop := 0 ≤ x ∧ x < 18446744073709551616
def value (l : List Int) : Int := l.foldl (fun n b => 256 * n + b) 0
theorem or_byte (n b : Int) (hb : 0 ≤ b ∧ b < 256) : Go.bits .or .u64 (IntKind.u64.wrap (n * 256)) (IntKind.u64.wrap b) = IntKind.u64.wrap (n * 256) + b := by
  rw [wraps_u64 b hb.1 (by omega)]
  refine bits_join .u64 64 (by decide) wraps_u64 8 _ b ?_ ?_ ?_ hb.1 hb.2 (by omega)
  · rw [IntKind.wrap_u64]; omega
  · rw [IntKind.wrap_u64]; omega
  · rw [IntKind.wrap_u64]; omega
theorem shifted_value_aux : ∀ (l : List Int) (n : Int) (m : Nat), (∀ b ∈ l, 0 ≤ b ∧ b < 256) → 0 ≤ n → n < 256 ^ m → m + l.length ≤ 8 →
    l.foldl (fun n b => Go.bits .or .u64 (IntKind.u64.wrap (n * 256)) (IntKind.u64.wrap b)) n = l.foldl (fun n b => 256 * n + b) n
  | [], _, _, _, _, _, _ => rfl
  | b :: l, n, m, hl, h0, h1, hm => by
    have hb := hl b (by simp)
    have hm8 : m + 1 ≤ 8 := by simp at hm; omega
    have hp : (256 : Int) ^ (m + 1) ≤ 256 ^ 8 := by have := Nat.pow_le_pow_right (by decide : 0 < 256) hm8; have e : ∀ j : Nat, (256 : Int) ^ j = ((256 ^ j : Nat) : Int) := fun j => (Int.natCast_pow 256 j).symm; rw [e, e]; exact Int.ofNat_le.2 this
    have hn : n * 256 < 256 ^ (m + 1) := by rw [Int.pow_succ]; omega
    have h8 : (256 : Int) ^ 8 = 18446744073709551616 := rfl
    have e : Go.bits .or .u64 (IntKind.u64.wrap (n * 256)) (IntKind.u64.wrap b) = 256 * n + b := by
      rw [or_byte n b hb, wraps_u64 (n * 256) (by omega) (by omega)]; omega
    simp only [List.foldl_cons]
    rw [e]
    refine shifted_value_aux l _ (m + 1) (fun c hc => hl c (by simp [hc])) (by omega) ?_ (by simp at hm; omega)
    have : n + 1 ≤ 256 ^ m := h1
    rw [Int.pow_succ]
    omega
theorem shifted_value (l : List Int) (hl : ∀ b ∈ l, 0 ≤ b ∧ b < 256) (hn : l.length ≤ 8) : shifted l = value l :=
  shifted_value_aux l 0 0 hl (by omega) (by decide) (by omega)
theorem KOK.get {k : S26} (h : KOK k) : (0 ≤ k.f0 ∧ k.f0 < 256) ∧ (0 ≤ k.f1 ∧ k.f1 < 256) ∧ (0 ≤ k.f2 ∧ k.f2 < 256) ∧ (0 ≤ k.f3 ∧ k.f3 < 256) ∧ (0 ≤ k.f4 ∧ k.f4 < 256) ∧ (0 ≤ k.f5 ∧ k.f5 < 256) ∧ (0 ≤ k.f6 ∧ k.f6 < 256) ∧ (0 ≤ k.f7 ∧ k.f7 < 256) ∧
    (0 ≤ k.f8 ∧ k.f8 < 256) ∧ (0 ≤ k.f9 ∧ k.f9 < 256) ∧ (0 ≤ k.f10 ∧ k.f10 < 256) ∧ (0 ≤ k.f11 ∧ k.f11 < 256) ∧ (0 ≤ k.f12 ∧ k.f12 < 256) ∧ (0 ≤ k.f13 ∧ k.f13 < 256) ∧ (0 ≤ k.f14 ∧ k.f14 < 256) ∧ (0 ≤ k.f15 ∧ k.f15 < 256) := by
  simpa [KOK, bytesOf] using h
theorem wordX_value {k : S26} (h : KOK k) : wordX k = value [k.f0, k.f1, k.f2, k.f3, k.f4, k.f5, k.f6, k.f7] :=
  shifted_value _ (fun b hb => h b (List.mem_of_mem_take hb)) (by simp [bytesOf])
theorem wordY_value {k : S26} (h : KOK k) : wordY k = value [k.f8, k.f9, k.f10, k.f11, k.f12, k.f13, k.f14, k.f15] :=
  shifted_value _ (fun b hb => h b (List.mem_of_mem_drop (List.mem_of_mem_take hb))) (by simp [bytesOf])
theorem wordX_sum {k : S26} (h : KOK k) : wordX k = k.f0 * 72057594037927936 + k.f1 * 281474976710656 + k.f2 * 1099511627776 + k.f3 * 4294967296 + k.f4 * 16777216 + k.f5 * 65536 + k.f6 * 256 + k.f7 := by
  rw [wordX_value h]; simp only [value, List.foldl_cons, List.foldl_nil]; omega
theorem wordY_sum {k : S26} (h : KOK k) : wordY k = k.f8 * 72057594037927936 + k.f9 * 281474976710656 + k.f10 * 1099511627776 + k.f11 * 4294967296 + k.f12 * 16777216 + k.f13 * 65536 + k.f14 * 256 + k.f15 := by
  rw [wordY_value h]; simp only [value, List.foldl_cons, List.foldl_nil]; omega
theorem wordX_ok {k : S26} (h : KOK k) : WOK (wordX k) := by
  obtain ⟨h0, h1, h2, h3, h4, h5, h6, h7, -⟩ := h.get
  rw [wordX_sum h]; constructor <;> omega
theorem wordY_ok {k : S26} (h : KOK k) : WOK (wordY k) := by
  obtain ⟨-, -, -, -, -, -, -, -, h0, h1, h2, h3, h4, h5, h6, h7⟩ := h.get
  rw [wordY_sum h]; constructor <;> omega
theorem byteAt_ok (x : Int) (i : Nat) : 0 ≤ byteAt x i ∧ byteAt x i < 256 := by unfold byteAt; omega
theorem blockK_ok (x y : Int) : KOK (blockK x y) := by
  intro b hb
  simp only [blockK, bytesOf, List.mem_cons, List.not_mem_nil, or_false] at hb
  rcases hb with rfl | rfl | rfl | rfl | rfl | rfl | rfl | rfl | rfl | rfl | rfl | rfl | rfl | rfl | rfl | rfl <;> exact byteAt_ok _ _
end Go.Proofs.Ytafhimeoijmolaa.K
namespace Go.Proofs.Ytafhimeoijmolaa.K
open Go.RowKit Go.Proofs.YtafhimeoijmolaaW.PrintWords Go.Proofs.YtafhimeoijmolaaW.PrintMore Go.Proofs.Ytafhimeoijmolaa.G
set_option linter.unusedVariables false
theorem byte_step (n b : Int) (hb : 0 ≤ b ∧ b < 256) : IntKind.u64.wrap (IntKind.u64.wrap (256 * n) + IntKind.u64.wrap b) = Go.bits .or .u64 (IntKind.u64.wrap (n * 256)) (IntKind.u64.wrap b) := by
  rw [or_byte n b hb, wraps_u64 b hb.1 (by omega), Int.mul_comm 256 n]
  refine wraps_u64 _ ?_ ?_ <;> rw [IntKind.wrap_u64] <;> omega
theorem value_l0 (l : List Int) (hl : ∀ b ∈ l, 0 ≤ b ∧ b < 256) (hlen : l.length < 1000) : ∀ (k i : Nat) (n : Int), l.length - i < k → i ≤ l.length →
    Z.headendref02_Value.l0 k l n (i : Int) = some ((l.drop i).foldl (fun n b => Go.bits .or .u64 (IntKind.u64.wrap (n * 256)) (IntKind.u64.wrap b)) n)
  | 0, i, n, hk, hi => absurd hk (by omega)
  | k + 1, i, n, hk, hi => by
    unfold Z.headendref02_Value.l0
    by_cases h : i < l.length
    · have e1 : rd l (i : Int) = l[i] := by simp [rd, h]
      have e2 : wrap64 ((i : Int) + 1) = ((i + 1 : Nat) : Int) := by simp [wrap64]; omega
      rw [if_pos (by omega), if_pos (by omega), e1, e2, byte_step n _ (hl _ (List.getElem_mem h)), value_l0 l hl hlen k (i + 1) _ (by omega) (by omega), List.drop_eq_getElem_cons h]
      rfl
    · rw [if_neg (by omega), List.drop_of_length_le (by omega)]
      rfl
theorem value_f (l : List Int) (hl : ∀ b ∈ l, 0 ≤ b ∧ b < 256) (hlen : l.length ≤ 8) : Z.headendref02_Value.f 10 l = some (value l) := by
  unfold Z.headendref02_Value.f
  have h := value_l0 l hl (by omega) 10 0 0 (by omega) (by omega)
  rw [← shifted_value l hl hlen]
  exact h
theorem bytes_step (k : Nat) (x s : Int) (out : List Int) (i : Nat) (hx : WOK x) (hi : (i : Int) < s) (hs : i < 100) (ho : out.length < 1000) :
    Z.headendref02_Bytes.l0 (k + 1) x s out (i : Int) = Z.headendref02_Bytes.l0 k (x / 256) s ((x % 256) :: out) ((i + 1 : Nat) : Int) := by
  obtain ⟨h0, h1⟩ := hx
  rw [Z.headendref02_Bytes.l0]
  have e2 : wrap64 ((i : Int) + 1) = ((i + 1 : Nat) : Int) := by simp [wrap64]; omega
  have e3 : Int.tmod x 256 % 256 = x % 256 := by rw [Int.tmod_eq_emod_of_nonneg h0]; omega
  have e4 : IntKind.u64.wrap (Int.tdiv x 256) = x / 256 := by rw [Int.tdiv_eq_ediv_of_nonneg h0, IntKind.wrap_u64]; omega
  rw [if_pos hi]
  simp only [Option.bind_some, List.length_singleton]
  rw [if_pos (by omega), e2, e3, e4]
  rfl
theorem WOK.div {x : Int} (h : WOK x) : WOK (x / 256) := by obtain ⟨h0, h1⟩ := h; constructor <;> omega
theorem bytes_end (k : Nat) (x s : Int) (out : List Int) (i : Int) (hi : ¬ i < s) : Z.headendref02_Bytes.l0 (k + 1) x s out i = some out := by
  rw [Z.headendref02_Bytes.l0, if_neg hi]
def bytes8 (x : Int) : List Int := [byteAt x 0, byteAt x 1, byteAt x 2, byteAt x 3, byteAt x 4, byteAt x 5, byteAt x 6, byteAt x 7]
theorem bytes_f8 (x : Int) (hx : WOK x) : Z.headendref02_Bytes.f 9 x 8 = some (bytes8 x) := by
  unfold Z.headendref02_Bytes.f
  have z : (0 : Int) = ((0 : Nat) : Int) := rfl
  rw [z, bytes_step 8 x _ _ 0 hx (by decide) (by decide) (by simp), bytes_step 7 _ _ _ 1 hx.div (by decide) (by decide) (by simp), bytes_step 6 _ _ _ 2 hx.div.div (by decide) (by decide) (by simp),
    bytes_step 5 _ _ _ 3 hx.div.div.div (by decide) (by decide) (by simp), bytes_step 4 _ _ _ 4 hx.div.div.div.div (by decide) (by decide) (by simp), bytes_step 3 _ _ _ 5 hx.div.div.div.div.div (by decide) (by decide) (by simp),
    bytes_step 2 _ _ _ 6 hx.div.div.div.div.div.div (by decide) (by decide) (by simp), bytes_step 1 _ _ _ 7 hx.div.div.div.div.div.div.div (by decide) (by decide) (by simp), bytes_end _ _ _ _ _ (by decide)]
  obtain ⟨h0, h1⟩ := hx
  simp only [bytes8, byteAt, Option.some.injEq, List.cons.injEq, and_true]
  refine ⟨?_, ?_, ?_, ?_, ?_, ?_, ?_, ?_⟩ <;> simp <;> omega
theorem bytes_f7 : Z.headendref02_Bytes.f 8 0 7 = some [0, 0, 0, 0, 0, 0, 0] := by
  unfold Z.headendref02_Bytes.f
  have z : (0 : Int) = ((0 : Nat) : Int) := rfl
  have hx : WOK 0 := ⟨by decide, by decide⟩
  have e : (0 : Int) / 256 = 0 := by decide
  have e' : (0 : Int) % 256 = 0 := by decide
  rw [show Z.headendref02_Bytes.l0 8 0 7 [] 0 = Z.headendref02_Bytes.l0 8 0 7 [] ((0 : Nat) : Int) from rfl, bytes_step 7 0 _ _ 0 hx (by decide) (by decide) (by simp), e, e', bytes_step 6 0 _ _ 1 hx (by decide) (by decide) (by simp), e, e',
    bytes_step 5 0 _ _ 2 hx (by decide) (by decide) (by simp), e, e', bytes_step 4 0 _ _ 3 hx (by decide) (by decide) (by simp), e, e', bytes_step 3 0 _ _ 4 hx (by decide) (by decide) (by simp), e, e',
    bytes_step 2 0 _ _ 5 hx (by decide) (by decide) (by simp), e, e', bytes_step 1 0 _ _ 6 hx (by decide) (by decide) (by simp), e, e', bytes_end _ _ _ _ _ (by decide)]
end Go.Proofs.Ytafhimeoijmolaa.K
namespace Go.Proofs.Ytafhimeoijmolaa.K
open Go.RowKit Go.Proofs.YtafhimeoijmolaaW.PrintWords Go.Proofs.YtafhimeoijmolaaW.PrintMore Go.Proofs.Ytafhimeoijmolaa.G
set_option linter.unusedVariables false
theorem or_comm' (a b : Int) : Go.bits .or .u64 a b = Go.bits .or .u64 b a := by simp only [Go.bits, BitVec.or_comm]
theorem rotr_8 (a : Int) : Z.headendref02_rotr.f a 8 = some (rl a 56) := by
  have h : wrap64 (64 - 8) = 56 := by simp [wrap64]
  unfold Z.headendref02_rotr.f
  rw [h, if_pos (by decide), if_pos (by decide), or_comm']; rfl
theorem rotl_3 (a : Int) : Z.headendref02_rotl.f a 3 = some (rl a 3) := by
  have h : wrap64 (64 - 3) = 61 := by simp [wrap64]
  have h2 : wrap64 (64 - 61) = 3 := by simp [wrap64]
  unfold Z.headendref02_rotl.f Z.headendref02_rotr.f
  rw [h, h2, if_pos (by decide), if_pos (by decide), or_comm']; rfl
theorem xor_ok {a b : Int} : WOK (Go.bits .xor .u64 a b) := ⟨bits_lo_u64 _ _ _, by have := bits_hi_u64 .xor a b; omega⟩
theorem WOK.nat {a : Int} (h : WOK a) : ∃ n : Nat, a = n ∧ n < 18446744073709551616 := by
  obtain ⟨h0, h1⟩ := h
  exact ⟨a.toNat, by omega, by omega⟩
def POK (p : Int × Int) : Prop := WOK p.1 ∧ WOK p.2
theorem rnd_ok (p : Int × Int) (k : Int) : POK (rnd p k) := ⟨xor_ok, xor_ok⟩
end Go.Proofs.Ytafhimeoijmolaa.K
namespace Go.Proofs.Ytafhimeoijmolaa.K
open Go.RowKit Go.Proofs.YtafhimeoijmolaaW.PrintWords Go.Proofs.YtafhimeoijmolaaW.PrintLast Go.Proofs.YtafhimeoijmolaaW.PrintMore Go.Proofs.Ytafhimeoijmolaa.G
set_option linter.unusedVariables false
set_option linter.unusedSimpArgs false
theorem C_ints {w : World} {g o : Nat} {k : IntKind} {cs : Array Value} {t : TypeId} {m : Nat × Nat} {xs : List Int} (h : w.heap[g]? = some (.cells cs t m)) (hl : xs.length ≤ 9223372036854775807) (hx : ∀ j p, xs[j]? = some p → cs[o + j]? = some (.int k p)) :
    Kd.C (Kd.int k) w (some ⟨g, o, none⟩) xs.length xs := by
  refine ⟨rfl, hl, fun _ => ⟨_, rfl, fun j p hj => ?_⟩⟩
  refine ⟨[.int k p], rfl, rfl, fun i u hu => ?_⟩
  match i, hu with
  | 0, hu =>
    simp at hu
    subst hu
    have e : (Kd.int k).sz = 1 := rfl
    simp only [e, Nat.mul_one]
    by_cases hj0 : j = 0
    · subst hj0; have := hx 0 p hj; simp at this; simp [Addr.add, World.cell?, h, this]
    · simp [Addr.add, hj0, World.cell?, h, hx j p hj]
theorem valueX_calls (k : S26) (hk : KOK k) (w : World) (g : Nat) (h : w.heap[g]? = some (.cells (kc k) 26 (0, 0))) :
    Calls Try.prog 73 #[.slice (some ⟨g, 0, none⟩) 8 16] w fun e w' => e = .returned (.int .u64 (wordX k)) ∧ Drawn0 w w' := by
  refine Z.headendref02_Value.calls 10 (some ⟨g, 0, none⟩) 16 [k.f0, k.f1, k.f2, k.f3, k.f4, k.f5, k.f6, k.f7] (wordX k) w (C_ints h (by simp) ?_) (by simp) ?_
  · intro j p hj
    match j, hj with
    | 0, hj | 1, hj | 2, hj | 3, hj | 4, hj | 5, hj | 6, hj | 7, hj => simp at hj; subst hj; rfl
  · rw [wordX_value hk]; exact value_f _ (fun b hb => hk b (List.mem_of_mem_take (i := 8) hb)) (by simp)
theorem valueY_calls (k : S26) (hk : KOK k) (w : World) (g : Nat) (h : w.heap[g]? = some (.cells (kc k) 26 (0, 0))) :
    Calls Try.prog 73 #[.slice (some ⟨g, 8, none⟩) 8 8] w fun e w' => e = .returned (.int .u64 (wordY k)) ∧ Drawn0 w w' := by
  refine Z.headendref02_Value.calls 10 (some ⟨g, 8, none⟩) 8 [k.f8, k.f9, k.f10, k.f11, k.f12, k.f13, k.f14, k.f15] (wordY k) w (C_ints h (by simp) ?_) (by simp) ?_
  · intro j p hj
    match j, hj with
    | 0, hj | 1, hj | 2, hj | 3, hj | 4, hj | 5, hj | 6, hj | 7, hj => simp at hj; subst hj; rfl
  · rw [wordY_value hk]; exact value_f _ (fun b hb => hk b (List.mem_of_mem_drop (i := 8) hb)) (by simp)
set_option maxHeartbeats 1000000 in
set_option maxRecDepth 100000 in
theorem words_calls (k : S26) (hk : KOK k) (w : World) :
    Calls Try.prog 137 #[kv k] w fun e w' => e = .returned (.tuple #[.int .u64 (wordX k), .int .u64 (wordY k)]) ∧ Below w.heap.size w w' := by
  have hu26 := Try.underlying26
  go_enter Try.func137, Try.ntmps137
  go_wp2_with fail
  obtain ⟨X, hX⟩ : ∃ X, X = wordX k := ⟨_, rfl⟩
  obtain ⟨Y, hY⟩ : ∃ Y, Y = wordY k := ⟨_, rfl⟩
  have vx := valueX_calls k hk
  have vy := valueY_calls k hk
  rw [← hX] at vx
  rw [← hY] at vy
  have HX := Aside0.mk hX
  have HY := Aside0.mk hY
  have VX := Aside0.mk vx
  have VY := Aside0.mk vy
  have hN : (w.alloc (.cells (kc k) 26 (0, 0))).heap[w.heap.size]? = some (.cells (kc k) 26 (0, 0)) := newAt rfl
  have HN := Aside0.mk hN
  clear vx vy hX hY hN
  go_region_with (go_at_call 73; first | (with_reducible refine Calls.mono (VX.out _ w.heap.size ?h1) ?_; (case h1 => first | exact blk_drew HN.out | exact blk_drewN HN.out _ | exact blk_drewN (blk_drew HN.out) _); rintro e1 w1 ⟨rfl, ⟨n1, rfl⟩⟩) | (with_reducible refine Calls.mono (VY.out _ w.heap.size ?h2) ?_; (case h2 => first | exact blk_drew HN.out | exact blk_drewN HN.out _ | exact blk_drewN (blk_drew HN.out) _); rintro e2 w2 ⟨rfl, ⟨n2, rfl⟩⟩))
  all_goals
    go_wp2
    go_ret2
    refine ⟨by rw [HX.out, HY.out]; first | rfl | simp [Act.put], ?_⟩
    first | exact pw_below_drewN ((Below.refl _ w).alloc (Nat.le_refl _) _) _ | exact (pw_below_drewN ((Below.refl _ w).alloc (Nat.le_refl _) _) _).drew
end Go.Proofs.Ytafhimeoijmolaa.K
namespace Go.Proofs.Ytafhimeoijmolaa.K
open Go.RowKit Go.Proofs.YtafhimeoijmolaaW.PrintWords Go.Proofs.YtafhimeoijmolaaW.PrintLast Go.Proofs.YtafhimeoijmolaaW.PrintMore Go.Proofs.Ytafhimeoijmolaa.G
set_option linter.unusedVariables false
set_option linter.unusedSimpArgs false
def keyOf (l : List Int) : S26 := ⟨l.getD 0 0, l.getD 1 0, l.getD 2 0, l.getD 3 0, l.getD 4 0, l.getD 5 0, l.getD 6 0, l.getD 7 0, l.getD 8 0, l.getD 9 0, l.getD 10 0, l.getD 11 0, l.getD 12 0, l.getD 13 0, l.getD 14 0, l.getD 15 0⟩
def partK (l : List Int) (i : Nat) : Array Value := ((List.range 16).map fun j => Value.int .u8 (if j < i then l.getD j 0 else 0)).toArray
theorem partK_step (l : List Int) (i : Nat) (hi : i < 16) : (partK l i).setIfInBounds i (.int .u8 (l.getD i 0)) = partK l (i + 1) := by
  rcases (show i = 0 ∨ i = 1 ∨ i = 2 ∨ i = 3 ∨ i = 4 ∨ i = 5 ∨ i = 6 ∨ i = 7 ∨ i = 8 ∨ i = 9 ∨ i = 10 ∨ i = 11 ∨ i = 12 ∨ i = 13 ∨ i = 14 ∨ i = 15 by omega) with rfl | rfl | rfl | rfl | rfl | rfl | rfl | rfl | rfl | rfl | rfl | rfl | rfl | rfl | rfl | rfl <;> rfl
theorem partK_at (l : List Int) (i : Nat) (hi : i < 16) : (partK l i)[i]? = some (.int .u8 0) := by
  rcases (show i = 0 ∨ i = 1 ∨ i = 2 ∨ i = 3 ∨ i = 4 ∨ i = 5 ∨ i = 6 ∨ i = 7 ∨ i = 8 ∨ i = 9 ∨ i = 10 ∨ i = 11 ∨ i = 12 ∨ i = 13 ∨ i = 14 ∨ i = 15 by omega) with rfl | rfl | rfl | rfl | rfl | rfl | rfl | rfl | rfl | rfl | rfl | rfl | rfl | rfl | rfl | rfl <;> rfl
theorem at_ints {w : World} {k : IntKind} {A : Option Addr} {n : Nat} {xs : List Int} (h : Kd.C (Kd.int k) w A n xs) (i : Nat) (h1 : i < n) : ∃ ad, A = some ad ∧ w.cell? (ad.add i) = some (.int k (xs.getD i 0)) := by
  obtain ⟨ad, c, e, _, hK, hc⟩ := Kd.C_get h 0 (i : Int) (by omega) (by omega)
  have e2 : c = [.int k (xs.getD i 0)] := hK
  refine ⟨ad, e, ?_⟩
  have := hc 0 (.int k (xs.getD i 0)) (by rw [e2]; rfl)
  have e3 : (Kd.int k).sz = 1 := rfl
  simpa [e3] using this
set_option maxHeartbeats 4000000 in
set_option maxRecDepth 100000 in
theorem key_calls (A : Option Addr) (c : Nat) (l : List Int) (hl : l.length = 16) (w : World) (hr : Kd.C (Kd.int .u8) w A l.length l) (hc : l.length ≤ c) :
    Calls Try.prog 158 #[.slice A l.length c] w fun e w' => e = .returned (kv (keyOf l)) ∧ Below w.heap.size w w' := by
  have hu26 := Try.underlying26
  rw [hl]
  have HR := Aside0.mk hr
  obtain ⟨ad, rfl, -⟩ := at_ints hr 0 (by omega)
  clear hr hc
  go_enter Try.func158, Try.ntmps158
  go_wp2
  go_loopg [4] 16 (fun kq v4 w' => ∃ i : Nat, v4 = .int .i64 (i : Int) ∧ Aside0 (i + kq = 16) ∧ Aside0 (w'.heap[w.heap.size]? = some (.cells (kc z26) 26 (0, 0))) ∧ Aside0 (w'.heap[w.heap.size + 1]? = some (.cells (partK l i) 26 (0, 0))) ∧ Aside0 (Below w.heap.size w w'))
  case atStart => exact ⟨0, rfl, ⟨rfl⟩, ⟨blk_alloc (newAt rfl) _⟩, ⟨newAt (by simp)⟩, ⟨((Below.refl _ w).alloc (Nat.le_refl _) _).alloc (by simp) _⟩⟩
  case round =>
    obtain ⟨i, rfl, HI, B0, B1, HB⟩ := hrel
    by_cases hi : i < 16
    · have b0 : decide ((i : Int) < 16) = true := decide_eq_true (by omega)
      have b1 : (i : Int) < 16 := by omega
      have hi' := Aside0.mk hi
      obtain ⟨ad2, e2, c0⟩ := at_ints (Kd.C_below HR.out HB.out) i (by omega)
      obtain rfl := Option.some.inj e2
      have f0 := blk_frozen B1.out i
      have d0 := cat B1.out i _ (partK_at l i hi)
      clear hi e2
      go_wp2
      obtain ⟨gq, rfl⟩ : ∃ gq, gk = gq + 1 := ⟨gk - 1, by have := hi'.out; have := HI.out; omega⟩
      go_roundg gq
      case measure => omega
      case rel =>
        refine ⟨i + 1, by simp, ⟨by have := HI.out; omega⟩, ⟨?_⟩, ⟨?_⟩, ⟨?_⟩⟩
        · exact blk_far B0.out (by simp) _
        · exact blk_put B1.out i _ (partK_step l i hi'.out)
        · exact HB.out.setCell (by simp) _
    · have hi8 : i = 16 := by have := HI.out; omega
      subst hi8
      have B1' : wr.heap[w.heap.size + 1]? = some (.cells (kc (keyOf l)) 26 (0, 0)) := B1.out
      obtain ⟨K, hK⟩ : ∃ K, K = keyOf l := ⟨_, rfl⟩
      rw [← hK] at B1'
      have hK' := Aside0.mk hK
      obtain ⟨c0, c1, c2, c3, c4, c5, c6, c7, c8, c9, c10, c11, c12, c13, c14, c15⟩ := cells16 B1'
      obtain ⟨d0, d1, d2, d3, d4, d5, d6, d7, d8, d9, d10, d11, d12, d13, d14, d15⟩ := cells16 B0.out
      obtain ⟨f0, f1, f2, f3, f4, f5, f6, f7, f8, f9, f10, f11, f12, f13, f14, f15⟩ := frozen16 B0.out
      clear hK B1'
      go_wp2
      refine bodyPost_ret (results_cell_row rfl _ _ w.heap.size 26 (kc K) (0, 0) _ rfl (putK_at B0.out K) Try.underlying26 rfl (by kernel_rfl)) rfl ?_
      exact ⟨by rw [hK'.out], putK_below HB.out (Nat.le_refl _)⟩
end Go.Proofs.Ytafhimeoijmolaa.K
namespace Go.Proofs.Ytafhimeoijmolaa.Z
open Go.RowKit Go.Proofs.YtafhimeoijmolaaW.PrintWords
def headendref02_key.f (l : List Int) : Option (Int × Int × Int × Int × Int × Int × Int × Int × Int × Int × Int × Int × Int × Int × Int × Int) :=
  if l.length = 16 then some (l.getD 0 0, l.getD 1 0, l.getD 2 0, l.getD 3 0, l.getD 4 0, l.getD 5 0, l.getD 6 0, l.getD 7 0, l.getD 8 0, l.getD 9 0, l.getD 10 0, l.getD 11 0, l.getD 12 0, l.getD 13 0, l.getD 14 0, l.getD 15 0) else none
theorem headendref02_key.calls (A0 : Option Addr) (c0 : Nat) (l0 : List Int) (r1 r2 r3 r4 r5 r6 r7 r8 r9 r10 r11 r12 r13 r14 r15 r16 : Int) (w : World) (hr0 : Kd.C (Kd.int .u8) w A0 l0.length l0) (hc0 : l0.length ≤ c0)
    (h : headendref02_key.f l0 = some (r1, r2, r3, r4, r5, r6, r7, r8, r9, r10, r11, r12, r13, r14, r15, r16)) :
    Calls Try.prog 158 #[.slice A0 l0.length c0] w fun e w' => e = .returned (.agg #[.int .u8 r1, .int .u8 r2, .int .u8 r3, .int .u8 r4, .int .u8 r5, .int .u8 r6, .int .u8 r7, .int .u8 r8, .int .u8 r9, .int .u8 r10, .int .u8 r11, .int .u8 r12, .int .u8 r13, .int .u8 r14, .int .u8 r15, .int .u8 r16]) ∧ Below w.heap.size w w' := by
  unfold headendref02_key.f at h
  by_cases hl : l0.length = 16
  · rw [if_pos hl] at h
    simp only [Option.some.injEq, Prod.mk.injEq] at h
    obtain ⟨rfl, rfl, rfl, rfl, rfl, rfl, rfl, rfl, rfl, rfl, rfl, rfl, rfl, rfl, rfl, rfl⟩ := h
    exact K.key_calls A0 c0 l0 hl w hr0 hc0
  · rw [if_neg hl] at h; cases h
end Go.Proofs.Ytafhimeoijmolaa.Z
namespace Go.Proofs.Ytafhimeoijmolaa.Z
open Go.RowKit Go.Proofs.YtafhimeoijmolaaW.PrintWords Go.Proofs.YtafhimeoijmolaaW.PrintLast Go.Proofs.YtafhimeoijmolaaW.PrintMore
attribute [local go_sem] max2_int min2_int max_two min_two max_three min_three max_four min_four   -- for this text's walks alone
set_option linter.unusedVariables false
set_option linter.unusedSimpArgs false
def headendref02_block.f (k : Nat) (a0 : Int) (a1 : Int) : Option (Int × Int × Int × Int × Int × Int × Int × Int × Int × Int × Int × Int × Int × Int × Int × Int) := (headendref02_Bytes.f k a0 8).bind fun t120 => ((headendref02_Bytes.f k a1 8).bind fun t123 => (if t120.length + t123.length < 140737488355328 then ((headendref02_key.f (t120 ++ t123)).bind fun bt129 => (some (bt129.1, bt129.2.1, bt129.2.2.1, bt129.2.2.2.1, bt129.2.2.2.2.1, bt129.2.2.2.2.2.1, bt129.2.2.2.2.2.2.1, bt129.2.2.2.2.2.2.2.1, bt129.2.2.2.2.2.2.2.2.1, bt129.2.2.2.2.2.2.2.2.2.1, bt129.2.2.2.2.2.2.2.2.2.2.1, bt129.2.2.2.2.2.2.2.2.2.2.2.1, bt129.2.2.2.2.2.2.2.2.2.2.2.2.1, bt129.2.2.2.2.2.2.2.2.2.2.2.2.2.1, bt129.2.2.2.2.2.2.2.2.2.2.2.2.2.2.1, bt129.2.2.2.2.2.2.2.2.2.2.2.2.2.2.2))) else (none)))
set_option maxHeartbeats 8000000 in
set_option maxRecDepth 100000 in
theorem headendref02_block.calls (k : Nat) (a0 : Int) (a1 : Int) (r1 : Int) (r2 : Int) (r3 : Int) (r4 : Int) (r5 : Int) (r6 : Int) (r7 : Int) (r8 : Int) (r9 : Int) (r10 : Int) (r11 : Int) (r12 : Int) (r13 : Int) (r14 : Int) (r15 : Int) (r16 : Int) (w : World) (h : headendref02_block.f k a0 a1 = some (r1, r2, r3, r4, r5, r6, r7, r8, r9, r10, r11, r12, r13, r14, r15, r16)) :
  Calls Try.prog 141 #[.int .u64 a0, .int .u64 a1] w fun e w' => e = .returned (.agg #[.int .u8 r1, .int .u8 r2, .int .u8 r3, .int .u8 r4, .int .u8 r5, .int .u8 r6, .int .u8 r7, .int .u8 r8, .int .u8 r9, .int .u8 r10, .int .u8 r11, .int .u8 r12, .int .u8 r13, .int .u8 r14, .int .u8 r15, .int .u8 r16]) ∧ Below w.heap.size w w' := by
 have hu26 := Try.underlying26
 have HB := Aside0.mk (Below.refl w.heap.size w)
 have H : ((headendref02_Bytes.f k a0 8).bind fun t120 => ((headendref02_Bytes.f k a1 8).bind fun t123 => (if t120.length + t123.length < 140737488355328 then ((headendref02_key.f (t120 ++ t123)).bind fun bt129 => (some (bt129.1, bt129.2.1, bt129.2.2.1, bt129.2.2.2.1, bt129.2.2.2.2.1, bt129.2.2.2.2.2.1, bt129.2.2.2.2.2.2.1, bt129.2.2.2.2.2.2.2.1, bt129.2.2.2.2.2.2.2.2.1, bt129.2.2.2.2.2.2.2.2.2.1, bt129.2.2.2.2.2.2.2.2.2.2.1, bt129.2.2.2.2.2.2.2.2.2.2.2.1, bt129.2.2.2.2.2.2.2.2.2.2.2.2.1, bt129.2.2.2.2.2.2.2.2.2.2.2.2.2.1, bt129.2.2.2.2.2.2.2.2.2.2.2.2.2.2.1, bt129.2.2.2.2.2.2.2.2.2.2.2.2.2.2.2))) else (none)))) = some (r1, r2, r3, r4, r5, r6, r7, r8, r9, r10, r11, r12, r13, r14, r15, r16) := h
 clear h
 replace H := Option.bind_eq_some_iff.mp H
 obtain ⟨t120, A30, H⟩ := H
 replace H : ((headendref02_Bytes.f k a1 8).bind fun t123 => (if t120.length + t123.length < 140737488355328 then ((headendref02_key.f (t120 ++ t123)).bind fun bt129 => (some (bt129.1, bt129.2.1, bt129.2.2.1, bt129.2.2.2.1, bt129.2.2.2.2.1, bt129.2.2.2.2.2.1, bt129.2.2.2.2.2.2.1, bt129.2.2.2.2.2.2.2.1, bt129.2.2.2.2.2.2.2.2.1, bt129.2.2.2.2.2.2.2.2.2.1, bt129.2.2.2.2.2.2.2.2.2.2.1, bt129.2.2.2.2.2.2.2.2.2.2.2.1, bt129.2.2.2.2.2.2.2.2.2.2.2.2.1, bt129.2.2.2.2.2.2.2.2.2.2.2.2.2.1, bt129.2.2.2.2.2.2.2.2.2.2.2.2.2.2.1, bt129.2.2.2.2.2.2.2.2.2.2.2.2.2.2.2))) else (none))) = some (r1, r2, r3, r4, r5, r6, r7, r8, r9, r10, r11, r12, r13, r14, r15, r16) := H
 have A3 := Aside0.mk A30
 clear A30
 replace H := Option.bind_eq_some_iff.mp H
 obtain ⟨t123, A40, H⟩ := H
 replace H : (if t120.length + t123.length < 140737488355328 then ((headendref02_key.f (t120 ++ t123)).bind fun bt129 => (some (bt129.1, bt129.2.1, bt129.2.2.1, bt129.2.2.2.1, bt129.2.2.2.2.1, bt129.2.2.2.2.2.1, bt129.2.2.2.2.2.2.1, bt129.2.2.2.2.2.2.2.1, bt129.2.2.2.2.2.2.2.2.1, bt129.2.2.2.2.2.2.2.2.2.1, bt129.2.2.2.2.2.2.2.2.2.2.1, bt129.2.2.2.2.2.2.2.2.2.2.2.1, bt129.2.2.2.2.2.2.2.2.2.2.2.2.1, bt129.2.2.2.2.2.2.2.2.2.2.2.2.2.1, bt129.2.2.2.2.2.2.2.2.2.2.2.2.2.2.1, bt129.2.2.2.2.2.2.2.2.2.2.2.2.2.2.2))) else (none)) = some (r1, r2, r3, r4, r5, r6, r7, r8, r9, r10, r11, r12, r13, r14, r15, r16) := H
 have A4 := Aside0.mk A40
 clear A40
 by_cases c5 : t120.length + t123.length < 140737488355328
 ·rw [if_pos c5] at H
  have LMc5 := Aside0.mk c5
  clear c5
  obtain ⟨y126, hy126⟩ : ∃ y_ : List Int, y_ = (t120 ++ t123) := ⟨_, rfl⟩
  replace H : ((headendref02_key.f y126).bind fun bt129 => (some (bt129.1, bt129.2.1, bt129.2.2.1, bt129.2.2.2.1, bt129.2.2.2.2.1, bt129.2.2.2.2.2.1, bt129.2.2.2.2.2.2.1, bt129.2.2.2.2.2.2.2.1, bt129.2.2.2.2.2.2.2.2.1, bt129.2.2.2.2.2.2.2.2.2.1, bt129.2.2.2.2.2.2.2.2.2.2.1, bt129.2.2.2.2.2.2.2.2.2.2.2.1, bt129.2.2.2.2.2.2.2.2.2.2.2.2.1, bt129.2.2.2.2.2.2.2.2.2.2.2.2.2.1, bt129.2.2.2.2.2.2.2.2.2.2.2.2.2.2.1, bt129.2.2.2.2.2.2.2.2.2.2.2.2.2.2.2))) = some (r1, r2, r3, r4, r5, r6, r7, r8, r9, r10, r11, r12, r13, r14, r15, r16) := by first | (rw [hy126]; with_reducible exact H) | (have H2_ := (Option.bind_some _ _).symm.trans H; rw [hy126]; with_reducible exact H2_) | (have H2_ := (Option.bind_some _ _).symm.trans H; with_reducible exact H2_) | with_reducible exact H | (rw [hy126]; exact H) | exact H
  have Ny126 := Aside0.mk hy126
  clear hy126
  replace H := Option.bind_eq_some_iff.mp H
  obtain ⟨⟨t129, t130, t131, t132, t133, t134, t135, t136, t137, t138, t139, t140, t141, t142, t143, t144⟩, A60, H⟩ := H
  replace H : (some (t129, t130, t131, t132, t133, t134, t135, t136, t137, t138, t139, t140, t141, t142, t143, t144)) = some (r1, r2, r3, r4, r5, r6, r7, r8, r9, r10, r11, r12, r13, r14, r15, r16) := H
  have A6 := Aside0.mk A60
  clear A60
  simp only [Option.some.injEq, Prod.mk.injEq] at H
  obtain ⟨rfl, rfl, rfl, rfl, rfl, rfl, rfl, rfl, rfl, rfl, rfl, rfl, rfl, rfl, rfl, rfl⟩ := H
  go_enter Try.func141, Try.ntmps141
  go_wp2_with (first | ((with_reducible refine gate_dst (N := 4) rfl ?_); refine box_event ?hg (N := 4) ?hd (cs := #[.int .u8 0, .int .u8 0, .int .u8 0, .int .u8 0, .int .u8 0, .int .u8 0, .int .u8 0, .int .u8 0, .int .u8 0, .int .u8 0, .int .u8 0, .int .u8 0, .int .u8 0, .int .u8 0, .int .u8 0, .int .u8 0]) (t := 26) ?hr ?_; (case hd => rfl); (case hg => rfl); (case hr => first | (go_simp; done) | (go_simp; rfl)); intro gb119 hg w7 hbox hb; have n0_ := Aside0.mk (below_step (by repeat (first | (with_reducible first | exact HB.out | apply below_alloc | apply pw_below_drewN | apply below_drew1) | exact HB.out)) hb); have n1_ := Aside0.mk (hbox); have n2_ := Aside0.mk ((by rw [hg]; exact (below_size (by repeat (first | (with_reducible first | exact HB.out | apply below_alloc | apply pw_below_drewN | apply below_drew1) | exact HB.out))) : w.heap.size ≤ gb119)); have n3_ := Aside0.mk ((by rw [hg]; exact (below_size (by repeat (first | (with_reducible first | exact HB.out | apply below_alloc | apply pw_below_drewN | apply below_drew1) | exact HB.out))) : w.heap.size ≤ gb119)); clear HB; have HB := n0_; have BK119 := n1_; have GW119 := n2_; have GE119 := n3_; clear n0_ n1_ n2_ n3_; clear hb hbox hg) | ((with_reducible refine gate_callee (f := 66) rfl ?_); refine goesL_ (some 6) rfl rfl Try.func66 (by kernel_rfl) rfl #[.int .u64 a0, .int .i64 8] rfl (by (try simp only [List.map_toArray, List.map_cons, List.map_nil]); first | done | rfl | (simp only [List.length_drop, List.length_take]; rfl)) ?_; (with_reducible refine (headendref02_Bytes.calls k a0 8 t120 _ A3.out).mono ?_); rintro e w8 ⟨v121, rfl, ho0, hb⟩; refine ⟨_, rfl, ?_⟩; have n0_ := Aside0.mk (Kd.R_lower ho0 (below_size (by repeat (first | (with_reducible first | exact HB.out | apply below_alloc | apply pw_below_drewN | apply below_drew1 | refine below_set ?_ GE119.out) | exact HB.out)))); have n1_ := Aside0.mk (blk_below (g := gb119) (o := .cells #[.int .u8 0, .int .u8 0, .int .u8 0, .int .u8 0, .int .u8 0, .int .u8 0, .int .u8 0, .int .u8 0, .int .u8 0, .int .u8 0, .int .u8 0, .int .u8 0, .int .u8 0, .int .u8 0, .int .u8 0, .int .u8 0] 26 (0, 0)) (by (with_reducible repeat (first | refine blk_drewN ?_ _ | refine blk_drew ?_ | refine blk_alloc ?_ _)); exact BK119.out) hb); have n2_ := Aside0.mk (below_step (by repeat (first | (with_reducible first | exact HB.out | apply below_alloc | apply pw_below_drewN | apply below_drew1 | refine below_set ?_ GE119.out) | exact HB.out)) hb); clear BK119; clear HB; have HO122 := n0_; have BK119 := n1_; have HB := n2_; clear n0_ n1_ n2_; (try clear hb); (try clear hb2); (try clear hk); (try clear hi); (try clear ho0)) | ((with_reducible refine gate_callee (f := 66) rfl ?_); refine goesL_ (some 8) rfl rfl Try.func66 (by kernel_rfl) rfl #[.int .u64 a1, .int .i64 8] rfl (by (try simp only [List.map_toArray, List.map_cons, List.map_nil]); first | done | rfl | (simp only [List.length_drop, List.length_take]; rfl)) ?_; (with_reducible refine (headendref02_Bytes.calls k a1 8 t123 _ A4.out).mono ?_); rintro e w9 ⟨v124, rfl, ho0, hb⟩; refine ⟨_, rfl, ?_⟩; have n0_ := Aside0.mk (Kd.R_elder' (by (with_reducible repeat (first | apply Kd.R_alloc | apply Kd.R_drewN | apply Kd.R_drew)); exact HO122.out) (Kd.R_base ho0) hb); have n1_ := Aside0.mk (Kd.R_lower (Kd.R_new' ho0 (Kd.R_lt (by (with_reducible repeat (first | apply Kd.R_alloc | apply Kd.R_drewN | apply Kd.R_drew)); exact HO122.out))) (below_size (by repeat (first | (with_reducible first | exact HB.out | apply below_alloc | apply pw_below_drewN | apply below_drew1 | refine below_set ?_ GE119.out) | exact HB.out)))); have n2_ := Aside0.mk (blk_below (g := gb119) (o := .cells #[.int .u8 0, .int .u8 0, .int .u8 0, .int .u8 0, .int .u8 0, .int .u8 0, .int .u8 0, .int .u8 0, .int .u8 0, .int .u8 0, .int .u8 0, .int .u8 0, .int .u8 0, .int .u8 0, .int .u8 0, .int .u8 0] 26 (0, 0)) (by (with_reducible repeat (first | refine blk_drewN ?_ _ | refine blk_drew ?_ | refine blk_alloc ?_ _)); exact BK119.out) hb); have n3_ := Aside0.mk (below_step (by repeat (first | (with_reducible first | exact HB.out | apply below_alloc | apply pw_below_drewN | apply below_drew1 | refine below_set ?_ GE119.out) | exact HB.out)) hb); clear HO122; clear BK119; clear HB; have HO122 := n0_; have HO125 := n1_; have BK119 := n2_; have HB := n3_; clear n0_ n1_ n2_ n3_; (try clear hb); (try clear hb2); (try clear hk); (try clear hi); (try clear ho0); obtain ⟨Ao11, co11, eo11⟩ := Kd.R_slice HO125.out; subst eo11) | ((with_reducible refine gate_builtin (b := .append) (xs := #[.tmp 6, .tmp 8]) rfl ?_); at_builtin; refine Kd.R_append_rows (Kd.int .u8) (w0 := w) w.heap.size rfl (.tmp 6) (.tmp 8) 29 5 (.int .u8 0) 1 rfl Try.underlying29 info5 rfl (by decide) (by omega) v121 t120 t123 _ _ _ (fun k_ => some k_ ≠ (.slice Ao11 t123.length co11 : Value).ownBlock) (fun _ => False) rfl rfl ?aO ?aR (fun _ _ h => h) (fun _ h => h.elim) ?aF ?aB ?aS ?aL ?_; (case aR => repeat (first | exact (Kd.R_reads' HO125.out).2.2 | (with_reducible refine Kd.C_alloc ?_ _) | (with_reducible refine Kd.C_drewN ?_ _) | (with_reducible refine Kd.C_drew ?_))); (case aB => exact (by repeat (first | (with_reducible first | exact HB.out | apply below_alloc | apply pw_below_drewN | apply below_drew1 | refine below_set ?_ GE119.out) | exact HB.out))); (case aF => exact (fun k_ hk => Kd.fresh' (Kd.R_lt (by (with_reducible repeat (first | apply Kd.R_alloc | apply Kd.R_drewN | apply Kd.R_drew)); exact HO125.out)) k_ hk)); (case aO => exact (by (with_reducible repeat (first | apply Kd.R_alloc | apply Kd.R_drewN | apply Kd.R_drew)); exact Kd.R_mono HO122.out (fun _ hk => hk.2))); (case aS => exact (below_size (by repeat (first | (with_reducible first | exact HB.out | apply below_alloc | apply pw_below_drewN | apply below_drew1 | refine below_set ?_ GE119.out) | exact HB.out)))); (case aL => have := LMc5.out; omega); intro v127 w10 ho hb hg hat; rw [← Ny126.out] at ho; have n0_ := Aside0.mk (blk_grown (g := gb119) (o := .cells #[.int .u8 0, .int .u8 0, .int .u8 0, .int .u8 0, .int .u8 0, .int .u8 0, .int .u8 0, .int .u8 0, .int .u8 0, .int .u8 0, .int .u8 0, .int .u8 0, .int .u8 0, .int .u8 0, .int .u8 0, .int .u8 0] 26 (0, 0)) (by (with_reducible repeat (first | refine blk_drewN ?_ _ | refine blk_drew ?_ | refine blk_alloc ?_ _)); exact BK119.out) hg (Kd.R_ne HO122.out BK119.out (by decide))); have n1_ := Aside0.mk (Kd.R_after (ok := (fun _ => True)) (by (with_reducible repeat (first | apply Kd.R_alloc | apply Kd.R_drewN | apply Kd.R_drew)); exact HO125.out) hg hat); have n2_ := Aside0.mk (hb); have n3_ := Aside0.mk (ho); clear BK119; clear HO125; clear HB; clear HO122; have BK119 := n0_; have HO125 := n1_; have HB := n2_; have HO128 := n3_; clear n0_ n1_ n2_ n3_; clear ho hb hg hat; obtain ⟨Ao12, co12, eo12⟩ := Kd.R_slice HO128.out; subst eo12) | ((with_reducible refine gate_callee (f := 158) rfl ?_); refine goesL_ (some 10) rfl rfl Try.func158 (by kernel_rfl) rfl #[.slice Ao12 y126.length co12] rfl (by (try simp only [List.map_toArray, List.map_cons, List.map_nil]); first | done | rfl | (simp only [List.length_drop, List.length_take]; rfl)) ?_; (with_reducible refine (headendref02_key.calls _ _ y126 t129 t130 t131 t132 t133 t134 t135 t136 t137 t138 t139 t140 t141 t142 t143 t144 _ ?side1 ?side2 A6.out).mono ?_); (case side1 => repeat (first | exact (Kd.R_reads' HO128.out).2.2 | (with_reducible refine Kd.C_alloc ?_ _) | (with_reducible refine Kd.C_drewN ?_ _) | (with_reducible refine Kd.C_drew ?_))); (case side2 => exact (Kd.R_reads' HO128.out).2.1); rintro e w13 ⟨rfl, hb⟩; refine ⟨_, rfl, ?_⟩; have n0_ := Aside0.mk (Kd.R_below (by (with_reducible repeat (first | apply Kd.R_alloc | apply Kd.R_drewN | apply Kd.R_drew)); exact HO125.out) hb); have n1_ := Aside0.mk (Kd.R_below (by (with_reducible repeat (first | apply Kd.R_alloc | apply Kd.R_drewN | apply Kd.R_drew)); exact HO128.out) hb); have n2_ := Aside0.mk (blk_below (g := gb119) (o := .cells #[.int .u8 0, .int .u8 0, .int .u8 0, .int .u8 0, .int .u8 0, .int .u8 0, .int .u8 0, .int .u8 0, .int .u8 0, .int .u8 0, .int .u8 0, .int .u8 0, .int .u8 0, .int .u8 0, .int .u8 0, .int .u8 0] 26 (0, 0)) (by (with_reducible repeat (first | refine blk_drewN ?_ _ | refine blk_drew ?_ | refine blk_alloc ?_ _)); exact BK119.out) hb); have n3_ := Aside0.mk (below_step (by repeat (first | (with_reducible first | exact HB.out | apply below_alloc | apply pw_below_drewN | apply below_drew1 | refine below_set ?_ GE119.out) | exact HB.out)) hb); clear HO125; clear HO128; clear BK119; clear HB; have HO125 := n0_; have HO128 := n1_; have BK119 := n2_; have HB := n3_; clear n0_ n1_ n2_ n3_; (try clear hb); (try clear hb2); (try clear hk); (try clear hi); have hcz14_0 : w13.cell? ⟨gb119, 0, none⟩ = some (.int .u8 0) := (blk_cell BK119.out 0).trans rfl; have hcz14_1 : w13.cell? ⟨gb119, 1, none⟩ = some (.int .u8 0) := (blk_cell BK119.out 1).trans rfl; have hcz14_2 : w13.cell? ⟨gb119, 2, none⟩ = some (.int .u8 0) := (blk_cell BK119.out 2).trans rfl; have hcz14_3 : w13.cell? ⟨gb119, 3, none⟩ = some (.int .u8 0) := (blk_cell BK119.out 3).trans rfl; have hcz14_4 : w13.cell? ⟨gb119, 4, none⟩ = some (.int .u8 0) := (blk_cell BK119.out 4).trans rfl; have hcz14_5 : w13.cell? ⟨gb119, 5, none⟩ = some (.int .u8 0) := (blk_cell BK119.out 5).trans rfl; have hcz14_6 : w13.cell? ⟨gb119, 6, none⟩ = some (.int .u8 0) := (blk_cell BK119.out 6).trans rfl; have hcz14_7 : w13.cell? ⟨gb119, 7, none⟩ = some (.int .u8 0) := (blk_cell BK119.out 7).trans rfl; have hcz14_8 : w13.cell? ⟨gb119, 8, none⟩ = some (.int .u8 0) := (blk_cell BK119.out 8).trans rfl; have hcz14_9 : w13.cell? ⟨gb119, 9, none⟩ = some (.int .u8 0) := (blk_cell BK119.out 9).trans rfl; have hcz14_10 : w13.cell? ⟨gb119, 10, none⟩ = some (.int .u8 0) := (blk_cell BK119.out 10).trans rfl; have hcz14_11 : w13.cell? ⟨gb119, 11, none⟩ = some (.int .u8 0) := (blk_cell BK119.out 11).trans rfl; have hcz14_12 : w13.cell? ⟨gb119, 12, none⟩ = some (.int .u8 0) := (blk_cell BK119.out 12).trans rfl; have hcz14_13 : w13.cell? ⟨gb119, 13, none⟩ = some (.int .u8 0) := (blk_cell BK119.out 13).trans rfl; have hcz14_14 : w13.cell? ⟨gb119, 14, none⟩ = some (.int .u8 0) := (blk_cell BK119.out 14).trans rfl; have hcz14_15 : w13.cell? ⟨gb119, 15, none⟩ = some (.int .u8 0) := (blk_cell BK119.out 15).trans rfl; have hfz14_0 := blk_frozen BK119.out 0; have hfz14_1 := blk_frozen BK119.out 1; have hfz14_2 := blk_frozen BK119.out 2; have hfz14_3 := blk_frozen BK119.out 3; have hfz14_4 := blk_frozen BK119.out 4; have hfz14_5 := blk_frozen BK119.out 5; have hfz14_6 := blk_frozen BK119.out 6; have hfz14_7 := blk_frozen BK119.out 7; have hfz14_8 := blk_frozen BK119.out 8; have hfz14_9 := blk_frozen BK119.out 9; have hfz14_10 := blk_frozen BK119.out 10; have hfz14_11 := blk_frozen BK119.out 11; have hfz14_12 := blk_frozen BK119.out 12; have hfz14_13 := blk_frozen BK119.out 13; have hfz14_14 := blk_frozen BK119.out 14; have hfz14_15 := blk_frozen BK119.out 15))
  refine bodyPost_ret (results_cell_row rfl _ _ gb119 26 #[.int .u8 t129, .int .u8 t130, .int .u8 t131, .int .u8 t132, .int .u8 t133, .int .u8 t134, .int .u8 t135, .int .u8 t136, .int .u8 t137, .int .u8 t138, .int .u8 t139, .int .u8 t140, .int .u8 t141, .int .u8 t142, .int .u8 t143, .int .u8 t144] (0, 0) _ rfl (by (with_reducible repeat (first | refine blk_drewN ?_ _ | refine blk_drew ?_ | refine blk_alloc ?_ _)); refine blk_put (cs := #[.int .u8 t129, .int .u8 t130, .int .u8 t131, .int .u8 t132, .int .u8 t133, .int .u8 t134, .int .u8 t135, .int .u8 t136, .int .u8 t137, .int .u8 t138, .int .u8 t139, .int .u8 t140, .int .u8 t141, .int .u8 t142, .int .u8 t143, .int .u8 0]) ?_ 15 _ rfl; (with_reducible repeat (first | refine blk_drewN ?_ _ | refine blk_drew ?_ | refine blk_alloc ?_ _)); refine blk_put (cs := #[.int .u8 t129, .int .u8 t130, .int .u8 t131, .int .u8 t132, .int .u8 t133, .int .u8 t134, .int .u8 t135, .int .u8 t136, .int .u8 t137, .int .u8 t138, .int .u8 t139, .int .u8 t140, .int .u8 t141, .int .u8 t142, .int .u8 0, .int .u8 0]) ?_ 14 _ rfl; (with_reducible repeat (first | refine blk_drewN ?_ _ | refine blk_drew ?_ | refine blk_alloc ?_ _)); refine blk_put (cs := #[.int .u8 t129, .int .u8 t130, .int .u8 t131, .int .u8 t132, .int .u8 t133, .int .u8 t134, .int .u8 t135, .int .u8 t136, .int .u8 t137, .int .u8 t138, .int .u8 t139, .int .u8 t140, .int .u8 t141, .int .u8 0, .int .u8 0, .int .u8 0]) ?_ 13 _ rfl; (with_reducible repeat (first | refine blk_drewN ?_ _ | refine blk_drew ?_ | refine blk_alloc ?_ _)); refine blk_put (cs := #[.int .u8 t129, .int .u8 t130, .int .u8 t131, .int .u8 t132, .int .u8 t133, .int .u8 t134, .int .u8 t135, .int .u8 t136, .int .u8 t137, .int .u8 t138, .int .u8 t139, .int .u8 t140, .int .u8 0, .int .u8 0, .int .u8 0, .int .u8 0]) ?_ 12 _ rfl; (with_reducible repeat (first | refine blk_drewN ?_ _ | refine blk_drew ?_ | refine blk_alloc ?_ _)); refine blk_put (cs := #[.int .u8 t129, .int .u8 t130, .int .u8 t131, .int .u8 t132, .int .u8 t133, .int .u8 t134, .int .u8 t135, .int .u8 t136, .int .u8 t137, .int .u8 t138, .int .u8 t139, .int .u8 0, .int .u8 0, .int .u8 0, .int .u8 0, .int .u8 0]) ?_ 11 _ rfl; (with_reducible repeat (first | refine blk_drewN ?_ _ | refine blk_drew ?_ | refine blk_alloc ?_ _)); refine blk_put (cs := #[.int .u8 t129, .int .u8 t130, .int .u8 t131, .int .u8 t132, .int .u8 t133, .int .u8 t134, .int .u8 t135, .int .u8 t136, .int .u8 t137, .int .u8 t138, .int .u8 0, .int .u8 0, .int .u8 0, .int .u8 0, .int .u8 0, .int .u8 0]) ?_ 10 _ rfl; (with_reducible repeat (first | refine blk_drewN ?_ _ | refine blk_drew ?_ | refine blk_alloc ?_ _)); refine blk_put (cs := #[.int .u8 t129, .int .u8 t130, .int .u8 t131, .int .u8 t132, .int .u8 t133, .int .u8 t134, .int .u8 t135, .int .u8 t136, .int .u8 t137, .int .u8 0, .int .u8 0, .int .u8 0, .int .u8 0, .int .u8 0, .int .u8 0, .int .u8 0]) ?_ 9 _ rfl; (with_reducible repeat (first | refine blk_drewN ?_ _ | refine blk_drew ?_ | refine blk_alloc ?_ _)); refine blk_put (cs := #[.int .u8 t129, .int .u8 t130, .int .u8 t131, .int .u8 t132, .int .u8 t133, .int .u8 t134, .int .u8 t135, .int .u8 t136, .int .u8 0, .int .u8 0, .int .u8 0, .int .u8 0, .int .u8 0, .int .u8 0, .int .u8 0, .int .u8 0]) ?_ 8 _ rfl; (with_reducible repeat (first | refine blk_drewN ?_ _ | refine blk_drew ?_ | refine blk_alloc ?_ _)); refine blk_put (cs := #[.int .u8 t129, .int .u8 t130, .int .u8 t131, .int .u8 t132, .int .u8 t133, .int .u8 t134, .int .u8 t135, .int .u8 0, .int .u8 0, .int .u8 0, .int .u8 0, .int .u8 0, .int .u8 0, .int .u8 0, .int .u8 0, .int .u8 0]) ?_ 7 _ rfl; (with_reducible repeat (first | refine blk_drewN ?_ _ | refine blk_drew ?_ | refine blk_alloc ?_ _)); refine blk_put (cs := #[.int .u8 t129, .int .u8 t130, .int .u8 t131, .int .u8 t132, .int .u8 t133, .int .u8 t134, .int .u8 0, .int .u8 0, .int .u8 0, .int .u8 0, .int .u8 0, .int .u8 0, .int .u8 0, .int .u8 0, .int .u8 0, .int .u8 0]) ?_ 6 _ rfl; (with_reducible repeat (first | refine blk_drewN ?_ _ | refine blk_drew ?_ | refine blk_alloc ?_ _)); refine blk_put (cs := #[.int .u8 t129, .int .u8 t130, .int .u8 t131, .int .u8 t132, .int .u8 t133, .int .u8 0, .int .u8 0, .int .u8 0, .int .u8 0, .int .u8 0, .int .u8 0, .int .u8 0, .int .u8 0, .int .u8 0, .int .u8 0, .int .u8 0]) ?_ 5 _ rfl; (with_reducible repeat (first | refine blk_drewN ?_ _ | refine blk_drew ?_ | refine blk_alloc ?_ _)); refine blk_put (cs := #[.int .u8 t129, .int .u8 t130, .int .u8 t131, .int .u8 t132, .int .u8 0, .int .u8 0, .int .u8 0, .int .u8 0, .int .u8 0, .int .u8 0, .int .u8 0, .int .u8 0, .int .u8 0, .int .u8 0, .int .u8 0, .int .u8 0]) ?_ 4 _ rfl; (with_reducible repeat (first | refine blk_drewN ?_ _ | refine blk_drew ?_ | refine blk_alloc ?_ _)); refine blk_put (cs := #[.int .u8 t129, .int .u8 t130, .int .u8 t131, .int .u8 0, .int .u8 0, .int .u8 0, .int .u8 0, .int .u8 0, .int .u8 0, .int .u8 0, .int .u8 0, .int .u8 0, .int .u8 0, .int .u8 0, .int .u8 0, .int .u8 0]) ?_ 3 _ rfl; (with_reducible repeat (first | refine blk_drewN ?_ _ | refine blk_drew ?_ | refine blk_alloc ?_ _)); refine blk_put (cs := #[.int .u8 t129, .int .u8 t130, .int .u8 0, .int .u8 0, .int .u8 0, .int .u8 0, .int .u8 0, .int .u8 0, .int .u8 0, .int .u8 0, .int .u8 0, .int .u8 0, .int .u8 0, .int .u8 0, .int .u8 0, .int .u8 0]) ?_ 2 _ rfl; (with_reducible repeat (first | refine blk_drewN ?_ _ | refine blk_drew ?_ | refine blk_alloc ?_ _)); refine blk_put (cs := #[.int .u8 t129, .int .u8 0, .int .u8 0, .int .u8 0, .int .u8 0, .int .u8 0, .int .u8 0, .int .u8 0, .int .u8 0, .int .u8 0, .int .u8 0, .int .u8 0, .int .u8 0, .int .u8 0, .int .u8 0, .int .u8 0]) ?_ 1 _ rfl; (with_reducible repeat (first | refine blk_drewN ?_ _ | refine blk_drew ?_ | refine blk_alloc ?_ _)); refine blk_put (cs := #[.int .u8 0, .int .u8 0, .int .u8 0, .int .u8 0, .int .u8 0, .int .u8 0, .int .u8 0, .int .u8 0, .int .u8 0, .int .u8 0, .int .u8 0, .int .u8 0, .int .u8 0, .int .u8 0, .int .u8 0, .int .u8 0]) ?_ 0 _ rfl; (with_reducible repeat (first | refine blk_drewN ?_ _ | refine blk_drew ?_ | refine blk_alloc ?_ _)); exact BK119.out) Try.underlying26 rfl (by kernel_rfl)) rfl ?_
  exact ⟨by first | rfl | (simp [errW_none, errW_some] <;> rfl) | (simp [*, errW_none, errW_some] <;> rfl), by repeat (first | (with_reducible first | exact HB.out | apply below_alloc | apply pw_below_drewN | apply below_drew1 | refine below_set ?_ GE119.out) | exact HB.out)⟩
 ·rw [if_neg c5] at H
  exact absurd H (by simp)
end Go.Proofs.Ytafhimeoijmolaa.Z
namespace Go.Proofs.Ytafhimeoijmolaa.Z
open Go.RowKit Go.Proofs.YtafhimeoijmolaaW.PrintWords Go.Proofs.YtafhimeoijmolaaW.PrintLast Go.Proofs.YtafhimeoijmolaaW.PrintMore
attribute [local go_sem] max2_int min2_int max_two min_two max_three min_three max_four min_four   -- for this text's walks alone
set_option linter.unusedVariables false
set_option linter.unusedSimpArgs false
def headendref02_Block.f (k : Nat) (a0 : Int) (a1 : Int) (a2 : Int) : Option (Int × Int × Int × Int × Int × Int × Int × Int × Int × Int × Int × Int × Int × Int × Int × Int) := (some (([a0] : List Int) : List Int)).bind fun y200 => ((headendref02_Bytes.f k a1 7).bind fun t203 => (if y200.length + t203.length < 140737488355328 then ((some (y200 ++ t203 : List Int)).bind fun y206 => ((headendref02_Bytes.f k a2 8).bind fun t209 => (if y206.length + t209.length < 140737488355328 then ((headendref02_key.f (y206 ++ t209)).bind fun bt215 => (some (bt215.1, bt215.2.1, bt215.2.2.1, bt215.2.2.2.1, bt215.2.2.2.2.1, bt215.2.2.2.2.2.1, bt215.2.2.2.2.2.2.1, bt215.2.2.2.2.2.2.2.1, bt215.2.2.2.2.2.2.2.2.1, bt215.2.2.2.2.2.2.2.2.2.1, bt215.2.2.2.2.2.2.2.2.2.2.1, bt215.2.2.2.2.2.2.2.2.2.2.2.1, bt215.2.2.2.2.2.2.2.2.2.2.2.2.1, bt215.2.2.2.2.2.2.2.2.2.2.2.2.2.1, bt215.2.2.2.2.2.2.2.2.2.2.2.2.2.2.1, bt215.2.2.2.2.2.2.2.2.2.2.2.2.2.2.2))) else (none)))) else (none)))
set_option maxHeartbeats 8000000 in
set_option maxRecDepth 100000 in
theorem headendref02_Block.calls (k : Nat) (a0 : Int) (a1 : Int) (a2 : Int) (r1 : Int) (r2 : Int) (r3 : Int) (r4 : Int) (r5 : Int) (r6 : Int) (r7 : Int) (r8 : Int) (r9 : Int) (r10 : Int) (r11 : Int) (r12 : Int) (r13 : Int) (r14 : Int) (r15 : Int) (r16 : Int) (w : World) (h : headendref02_Block.f k a0 a1 a2 = some (r1, r2, r3, r4, r5, r6, r7, r8, r9, r10, r11, r12, r13, r14, r15, r16)) :
  Calls Try.prog 136 #[.int .u8 a0, .int .u64 a1, .int .u64 a2] w fun e w' => e = .returned (.agg #[.int .u8 r1, .int .u8 r2, .int .u8 r3, .int .u8 r4, .int .u8 r5, .int .u8 r6, .int .u8 r7, .int .u8 r8, .int .u8 r9, .int .u8 r10, .int .u8 r11, .int .u8 r12, .int .u8 r13, .int .u8 r14, .int .u8 r15, .int .u8 r16]) ∧ Below w.heap.size w w' := by
 have hu26 := Try.underlying26
 have HB := Aside0.mk (Below.refl w.heap.size w)
 have H : ((some (([a0] : List Int) : List Int)).bind fun y200 => ((headendref02_Bytes.f k a1 7).bind fun t203 => (if y200.length + t203.length < 140737488355328 then ((some (y200 ++ t203 : List Int)).bind fun y206 => ((headendref02_Bytes.f k a2 8).bind fun t209 => (if y206.length + t209.length < 140737488355328 then ((headendref02_key.f (y206 ++ t209)).bind fun bt215 => (some (bt215.1, bt215.2.1, bt215.2.2.1, bt215.2.2.2.1, bt215.2.2.2.2.1, bt215.2.2.2.2.2.1, bt215.2.2.2.2.2.2.1, bt215.2.2.2.2.2.2.2.1, bt215.2.2.2.2.2.2.2.2.1, bt215.2.2.2.2.2.2.2.2.2.1, bt215.2.2.2.2.2.2.2.2.2.2.1, bt215.2.2.2.2.2.2.2.2.2.2.2.1, bt215.2.2.2.2.2.2.2.2.2.2.2.2.1, bt215.2.2.2.2.2.2.2.2.2.2.2.2.2.1, bt215.2.2.2.2.2.2.2.2.2.2.2.2.2.2.1, bt215.2.2.2.2.2.2.2.2.2.2.2.2.2.2.2))) else (none)))) else (none)))) = some (r1, r2, r3, r4, r5, r6, r7, r8, r9, r10, r11, r12, r13, r14, r15, r16) := h
 clear h
 obtain ⟨y200, hy200⟩ : ∃ y_ : List Int, y_ = (([a0] : List Int)) := ⟨_, rfl⟩
 replace H : ((headendref02_Bytes.f k a1 7).bind fun t203 => (if y200.length + t203.length < 140737488355328 then ((some (y200 ++ t203 : List Int)).bind fun y206 => ((headendref02_Bytes.f k a2 8).bind fun t209 => (if y206.length + t209.length < 140737488355328 then ((headendref02_key.f (y206 ++ t209)).bind fun bt215 => (some (bt215.1, bt215.2.1, bt215.2.2.1, bt215.2.2.2.1, bt215.2.2.2.2.1, bt215.2.2.2.2.2.1, bt215.2.2.2.2.2.2.1, bt215.2.2.2.2.2.2.2.1, bt215.2.2.2.2.2.2.2.2.1, bt215.2.2.2.2.2.2.2.2.2.1, bt215.2.2.2.2.2.2.2.2.2.2.1, bt215.2.2.2.2.2.2.2.2.2.2.2.1, bt215.2.2.2.2.2.2.2.2.2.2.2.2.1, bt215.2.2.2.2.2.2.2.2.2.2.2.2.2.1, bt215.2.2.2.2.2.2.2.2.2.2.2.2.2.2.1, bt215.2.2.2.2.2.2.2.2.2.2.2.2.2.2.2))) else (none)))) else (none))) = some (r1, r2, r3, r4, r5, r6, r7, r8, r9, r10, r11, r12, r13, r14, r15, r16) := by first | (rw [hy200]; with_reducible exact H) | (have H2_ := (Option.bind_some _ _).symm.trans H; rw [hy200]; with_reducible exact H2_) | (have H2_ := (Option.bind_some _ _).symm.trans H; with_reducible exact H2_) | with_reducible exact H | (rw [hy200]; exact H) | exact H
 have Ny200 := Aside0.mk hy200
 clear hy200
 replace H := Option.bind_eq_some_iff.mp H
 obtain ⟨t203, A40, H⟩ := H
 replace H : (if y200.length + t203.length < 140737488355328 then ((some (y200 ++ t203 : List Int)).bind fun y206 => ((headendref02_Bytes.f k a2 8).bind fun t209 => (if y206.length + t209.length < 140737488355328 then ((headendref02_key.f (y206 ++ t209)).bind fun bt215 => (some (bt215.1, bt215.2.1, bt215.2.2.1, bt215.2.2.2.1, bt215.2.2.2.2.1, bt215.2.2.2.2.2.1, bt215.2.2.2.2.2.2.1, bt215.2.2.2.2.2.2.2.1, bt215.2.2.2.2.2.2.2.2.1, bt215.2.2.2.2.2.2.2.2.2.1, bt215.2.2.2.2.2.2.2.2.2.2.1, bt215.2.2.2.2.2.2.2.2.2.2.2.1, bt215.2.2.2.2.2.2.2.2.2.2.2.2.1, bt215.2.2.2.2.2.2.2.2.2.2.2.2.2.1, bt215.2.2.2.2.2.2.2.2.2.2.2.2.2.2.1, bt215.2.2.2.2.2.2.2.2.2.2.2.2.2.2.2))) else (none)))) else (none)) = some (r1, r2, r3, r4, r5, r6, r7, r8, r9, r10, r11, r12, r13, r14, r15, r16) := H
 have A4 := Aside0.mk A40
 clear A40
 by_cases c5 : y200.length + t203.length < 140737488355328
 ·rw [if_pos c5] at H
  have LMc5 := Aside0.mk c5
  clear c5
  obtain ⟨y206, hy206⟩ : ∃ y_ : List Int, y_ = (y200 ++ t203) := ⟨_, rfl⟩
  replace H : ((headendref02_Bytes.f k a2 8).bind fun t209 => (if y206.length + t209.length < 140737488355328 then ((headendref02_key.f (y206 ++ t209)).bind fun bt215 => (some (bt215.1, bt215.2.1, bt215.2.2.1, bt215.2.2.2.1, bt215.2.2.2.2.1, bt215.2.2.2.2.2.1, bt215.2.2.2.2.2.2.1, bt215.2.2.2.2.2.2.2.1, bt215.2.2.2.2.2.2.2.2.1, bt215.2.2.2.2.2.2.2.2.2.1, bt215.2.2.2.2.2.2.2.2.2.2.1, bt215.2.2.2.2.2.2.2.2.2.2.2.1, bt215.2.2.2.2.2.2.2.2.2.2.2.2.1, bt215.2.2.2.2.2.2.2.2.2.2.2.2.2.1, bt215.2.2.2.2.2.2.2.2.2.2.2.2.2.2.1, bt215.2.2.2.2.2.2.2.2.2.2.2.2.2.2.2))) else (none))) = some (r1, r2, r3, r4, r5, r6, r7, r8, r9, r10, r11, r12, r13, r14, r15, r16) := by first | (rw [hy206]; with_reducible exact H) | (have H2_ := (Option.bind_some _ _).symm.trans H; rw [hy206]; with_reducible exact H2_) | (have H2_ := (Option.bind_some _ _).symm.trans H; with_reducible exact H2_) | with_reducible exact H | (rw [hy206]; exact H) | exact H
  have Ny206 := Aside0.mk hy206
  clear hy206
  replace H := Option.bind_eq_some_iff.mp H
  obtain ⟨t209, A60, H⟩ := H
  replace H : (if y206.length + t209.length < 140737488355328 then ((headendref02_key.f (y206 ++ t209)).bind fun bt215 => (some (bt215.1, bt215.2.1, bt215.2.2.1, bt215.2.2.2.1, bt215.2.2.2.2.1, bt215.2.2.2.2.2.1, bt215.2.2.2.2.2.2.1, bt215.2.2.2.2.2.2.2.1, bt215.2.2.2.2.2.2.2.2.1, bt215.2.2.2.2.2.2.2.2.2.1, bt215.2.2.2.2.2.2.2.2.2.2.1, bt215.2.2.2.2.2.2.2.2.2.2.2.1, bt215.2.2.2.2.2.2.2.2.2.2.2.2.1, bt215.2.2.2.2.2.2.2.2.2.2.2.2.2.1, bt215.2.2.2.2.2.2.2.2.2.2.2.2.2.2.1, bt215.2.2.2.2.2.2.2.2.2.2.2.2.2.2.2))) else (none)) = some (r1, r2, r3, r4, r5, r6, r7, r8, r9, r10, r11, r12, r13, r14, r15, r16) := H
  have A6 := Aside0.mk A60
  clear A60
  by_cases c7 : y206.length + t209.length < 140737488355328
  ·rw [if_pos c7] at H
   have LMc7 := Aside0.mk c7
   clear c7
   obtain ⟨y212, hy212⟩ : ∃ y_ : List Int, y_ = (y206 ++ t209) := ⟨_, rfl⟩
   replace H : ((headendref02_key.f y212).bind fun bt215 => (some (bt215.1, bt215.2.1, bt215.2.2.1, bt215.2.2.2.1, bt215.2.2.2.2.1, bt215.2.2.2.2.2.1, bt215.2.2.2.2.2.2.1, bt215.2.2.2.2.2.2.2.1, bt215.2.2.2.2.2.2.2.2.1, bt215.2.2.2.2.2.2.2.2.2.1, bt215.2.2.2.2.2.2.2.2.2.2.1, bt215.2.2.2.2.2.2.2.2.2.2.2.1, bt215.2.2.2.2.2.2.2.2.2.2.2.2.1, bt215.2.2.2.2.2.2.2.2.2.2.2.2.2.1, bt215.2.2.2.2.2.2.2.2.2.2.2.2.2.2.1, bt215.2.2.2.2.2.2.2.2.2.2.2.2.2.2.2))) = some (r1, r2, r3, r4, r5, r6, r7, r8, r9, r10, r11, r12, r13, r14, r15, r16) := by first | (rw [hy212]; with_reducible exact H) | (have H2_ := (Option.bind_some _ _).symm.trans H; rw [hy212]; with_reducible exact H2_) | (have H2_ := (Option.bind_some _ _).symm.trans H; with_reducible exact H2_) | with_reducible exact H | (rw [hy212]; exact H) | exact H
   have Ny212 := Aside0.mk hy212
   clear hy212
   replace H := Option.bind_eq_some_iff.mp H
   obtain ⟨⟨t215, t216, t217, t218, t219, t220, t221, t222, t223, t224, t225, t226, t227, t228, t229, t230⟩, A80, H⟩ := H
   replace H : (some (t215, t216, t217, t218, t219, t220, t221, t222, t223, t224, t225, t226, t227, t228, t229, t230)) = some (r1, r2, r3, r4, r5, r6, r7, r8, r9, r10, r11, r12, r13, r14, r15, r16) := H
   have A8 := Aside0.mk A80
   clear A80
   simp only [Option.some.injEq, Prod.mk.injEq] at H
   obtain ⟨rfl, rfl, rfl, rfl, rfl, rfl, rfl, rfl, rfl, rfl, rfl, rfl, rfl, rfl, rfl, rfl⟩ := H
   go_enter Try.func136, Try.ntmps136
   go_wp2_with (first | ((with_reducible refine gate_dst (N := 6) rfl ?_); refine box_event ?hg (N := 6) ?hd (cs := #[.int .u8 0, .int .u8 0, .int .u8 0, .int .u8 0, .int .u8 0, .int .u8 0, .int .u8 0, .int .u8 0, .int .u8 0, .int .u8 0, .int .u8 0, .int .u8 0, .int .u8 0, .int .u8 0, .int .u8 0, .int .u8 0]) (t := 26) ?hr ?_; (case hd => rfl); (case hg => rfl); (case hr => first | (go_simp; done) | (go_simp; rfl)); intro gb199 hg w9 hbox hb; have n0_ := Aside0.mk (below_step (by repeat (first | (with_reducible first | exact HB.out | apply below_alloc | apply pw_below_drewN | apply below_drew1) | exact HB.out)) hb); have n1_ := Aside0.mk (hbox); have n2_ := Aside0.mk ((by rw [hg]; exact (below_size (by repeat (first | (with_reducible first | exact HB.out | apply below_alloc | apply pw_below_drewN | apply below_drew1) | exact HB.out))) : w.heap.size ≤ gb199)); have n3_ := Aside0.mk ((by rw [hg]; exact (below_size (by repeat (first | (with_reducible first | exact HB.out | apply below_alloc | apply pw_below_drewN | apply below_drew1) | exact HB.out))) : w.heap.size ≤ gb199)); clear HB; have HB := n0_; have BK199 := n1_; have GW199 := n2_; have GE199 := n3_; clear n0_ n1_ n2_ n3_; clear hb hbox hg) | ((with_reducible refine gate_dst (N := 9) rfl ?_); refine Kd.R_lit (Kd.int .u8) _ 5 ?hg (N := 9) ?hd (xs := ([a0] : List Int)) (inner := [.int .u8 a0]) (ok := fun _ => True) (okp := fun _ => True) ?hr ?hp (fun _ hk => hk) trivial (Below.refl _ _) (Nat.le_refl _) (by simp) ?_; (case hd => rfl); (case hg => rfl); (case hr => first | (go_simp; done) | (go_simp; rfl)); (case hp => exact (Reps.one (show Kd.M (Kd.int .u8) _ _ _ a0 [.int .u8 a0] from rfl) (Reps.none _ _))); intro v201 w10 ho11 hb hg_ hnew_; clear hg_ hnew_; (first | rw [← Ny200.out] at ho11 | (simp only [Int.reduceToNat] at ho11; rw [← Ny200.out] at ho11)); have n0_ := Aside0.mk (Kd.R_lower ho11 (below_size (by repeat (first | (with_reducible first | exact HB.out | apply below_alloc | apply pw_below_drewN | apply below_drew1 | refine below_set ?_ GE199.out) | exact HB.out)))); have n1_ := Aside0.mk (blk_below (g := gb199) (o := .cells #[.int .u8 0, .int .u8 0, .int .u8 0, .int .u8 0, .int .u8 0, .int .u8 0, .int .u8 0, .int .u8 0, .int .u8 0, .int .u8 0, .int .u8 0, .int .u8 0, .int .u8 0, .int .u8 0, .int .u8 0, .int .u8 0] 26 (0, 0)) (by (with_reducible repeat (first | refine blk_drewN ?_ _ | refine blk_drew ?_ | refine blk_alloc ?_ _)); exact BK199.out) hb); have n2_ := Aside0.mk (below_step (by repeat (first | (with_reducible first | exact HB.out | apply below_alloc | apply pw_below_drewN | apply below_drew1 | refine below_set ?_ GE199.out) | exact HB.out)) hb); clear BK199; clear HB; have HO202 := n0_; have BK199 := n1_; have HB := n2_; clear n0_ n1_ n2_; clear hb ho11) | ((with_reducible refine gate_callee (f := 66) rfl ?_); refine goesL_ (some 11) rfl rfl Try.func66 (by kernel_rfl) rfl #[.int .u64 a1, .int .i64 7] rfl (by (try simp only [List.map_toArray, List.map_cons, List.map_nil]); first | done | rfl | (simp only [List.length_drop, List.length_take]; rfl)) ?_; (with_reducible refine (headendref02_Bytes.calls k a1 7 t203 _ A4.out).mono ?_); rintro e w12 ⟨v204, rfl, ho0, hb⟩; refine ⟨_, rfl, ?_⟩; have n0_ := Aside0.mk (Kd.R_elder' (by (with_reducible repeat (first | apply Kd.R_alloc | apply Kd.R_drewN | apply Kd.R_drew)); exact HO202.out) (Kd.R_base ho0) hb); have n1_ := Aside0.mk (Kd.R_lower (Kd.R_new' ho0 (Kd.R_lt (by (with_reducible repeat (first | apply Kd.R_alloc | apply Kd.R_drewN | apply Kd.R_drew)); exact HO202.out))) (below_size (by repeat (first | (with_reducible first | exact HB.out | apply below_alloc | apply pw_below_drewN | apply below_drew1 | refine below_set ?_ GE199.out) | exact HB.out)))); have n2_ := Aside0.mk (blk_below (g := gb199) (o := .cells #[.int .u8 0, .int .u8 0, .int .u8 0, .int .u8 0, .int .u8 0, .int .u8 0, .int .u8 0, .int .u8 0, .int .u8 0, .int .u8 0, .int .u8 0, .int .u8 0, .int .u8 0, .int .u8 0, .int .u8 0, .int .u8 0] 26 (0, 0)) (by (with_reducible repeat (first | refine blk_drewN ?_ _ | refine blk_drew ?_ | refine blk_alloc ?_ _)); exact BK199.out) hb); have n3_ := Aside0.mk (below_step (by repeat (first | (with_reducible first | exact HB.out | apply below_alloc | apply pw_below_drewN | apply below_drew1 | refine below_set ?_ GE199.out) | exact HB.out)) hb); clear HO202; clear BK199; clear HB; have HO202 := n0_; have HO205 := n1_; have BK199 := n2_; have HB := n3_; clear n0_ n1_ n2_ n3_; (try clear hb); (try clear hb2); (try clear hk); (try clear hi); (try clear ho0); obtain ⟨Ao14, co14, eo14⟩ := Kd.R_slice HO205.out; subst eo14) | ((with_reducible refine gate_builtin (b := .append) (xs := #[.tmp 9, .tmp 11]) rfl ?_); at_builtin; refine Kd.R_append_rows (Kd.int .u8) (w0 := w) w.heap.size rfl (.tmp 9) (.tmp 11) 29 5 (.int .u8 0) 1 rfl Try.underlying29 info5 rfl (by decide) (by omega) v201 y200 t203 _ _ _ (fun k_ => some k_ ≠ (.slice Ao14 t203.length co14 : Value).ownBlock) (fun _ => False) rfl rfl ?aO ?aR (fun _ _ h => h) (fun _ h => h.elim) ?aF ?aB ?aS ?aL ?_; (case aR => repeat (first | exact (Kd.R_reads' HO205.out).2.2 | (with_reducible refine Kd.C_alloc ?_ _) | (with_reducible refine Kd.C_drewN ?_ _) | (with_reducible refine Kd.C_drew ?_))); (case aB => exact (by repeat (first | (with_reducible first | exact HB.out | apply below_alloc | apply pw_below_drewN | apply below_drew1 | refine below_set ?_ GE199.out) | exact HB.out))); (case aF => exact (fun k_ hk => Kd.fresh' (Kd.R_lt (by (with_reducible repeat (first | apply Kd.R_alloc | apply Kd.R_drewN | apply Kd.R_drew)); exact HO205.out)) k_ hk)); (case aO => exact (by (with_reducible repeat (first | apply Kd.R_alloc | apply Kd.R_drewN | apply Kd.R_drew)); exact Kd.R_mono HO202.out (fun _ hk => hk.2))); (case aS => exact (below_size (by repeat (first | (with_reducible first | exact HB.out | apply below_alloc | apply pw_below_drewN | apply below_drew1 | refine below_set ?_ GE199.out) | exact HB.out)))); (case aL => have := LMc5.out; omega); intro v207 w13 ho hb hg hat; rw [← Ny206.out] at ho; have n0_ := Aside0.mk (blk_grown (g := gb199) (o := .cells #[.int .u8 0, .int .u8 0, .int .u8 0, .int .u8 0, .int .u8 0, .int .u8 0, .int .u8 0, .int .u8 0, .int .u8 0, .int .u8 0, .int .u8 0, .int .u8 0, .int .u8 0, .int .u8 0, .int .u8 0, .int .u8 0] 26 (0, 0)) (by (with_reducible repeat (first | refine blk_drewN ?_ _ | refine blk_drew ?_ | refine blk_alloc ?_ _)); exact BK199.out) hg (Kd.R_ne HO202.out BK199.out (by decide))); have n1_ := Aside0.mk (Kd.R_after (ok := (fun _ => True)) (by (with_reducible repeat (first | apply Kd.R_alloc | apply Kd.R_drewN | apply Kd.R_drew)); exact HO205.out) hg hat); have n2_ := Aside0.mk (hb); have n3_ := Aside0.mk (ho); clear BK199; clear HO205; clear HB; clear HO202; have BK199 := n0_; have HO205 := n1_; have HB := n2_; have HO208 := n3_; clear n0_ n1_ n2_ n3_; clear ho hb hg hat) | ((with_reducible refine gate_callee (f := 66) rfl ?_); refine goesL_ (some 15) rfl rfl Try.func66 (by kernel_rfl) rfl #[.int .u64 a2, .int .i64 8] rfl (by (try simp only [List.map_toArray, List.map_cons, List.map_nil]); first | done | rfl | (simp only [List.length_drop, List.length_take]; rfl)) ?_; (with_reducible refine (headendref02_Bytes.calls k a2 8 t209 _ A6.out).mono ?_); rintro e w15 ⟨v210, rfl, ho0, hb⟩; refine ⟨_, rfl, ?_⟩; have n0_ := Aside0.mk (Kd.R_elder' (by (with_reducible repeat (first | apply Kd.R_alloc | apply Kd.R_drewN | apply Kd.R_drew)); exact HO205.out) (Kd.R_base ho0) hb); have n1_ := Aside0.mk (Kd.R_elder' (by (with_reducible repeat (first | apply Kd.R_alloc | apply Kd.R_drewN | apply Kd.R_drew)); exact HO208.out) (Kd.R_base ho0) hb); have n2_ := Aside0.mk (Kd.R_lower (Kd.R_new' (Kd.R_new' ho0 (Kd.R_lt (by (with_reducible repeat (first | apply Kd.R_alloc | apply Kd.R_drewN | apply Kd.R_drew)); exact HO205.out))) (Kd.R_lt (by (with_reducible repeat (first | apply Kd.R_alloc | apply Kd.R_drewN | apply Kd.R_drew)); exact HO208.out))) (below_size (by repeat (first | (with_reducible first | exact HB.out | apply below_alloc | apply pw_below_drewN | apply below_drew1 | refine below_set ?_ GE199.out) | exact HB.out)))); have n3_ := Aside0.mk (blk_below (g := gb199) (o := .cells #[.int .u8 0, .int .u8 0, .int .u8 0, .int .u8 0, .int .u8 0, .int .u8 0, .int .u8 0, .int .u8 0, .int .u8 0, .int .u8 0, .int .u8 0, .int .u8 0, .int .u8 0, .int .u8 0, .int .u8 0, .int .u8 0] 26 (0, 0)) (by (with_reducible repeat (first | refine blk_drewN ?_ _ | refine blk_drew ?_ | refine blk_alloc ?_ _)); exact BK199.out) hb); have n4_ := Aside0.mk (below_step (by repeat (first | (with_reducible first | exact HB.out | apply below_alloc | apply pw_below_drewN | apply below_drew1 | refine below_set ?_ GE199.out) | exact HB.out)) hb); clear HO205; clear HO208; clear BK199; clear HB; have HO205 := n0_; have HO208 := n1_; have HO211 := n2_; have BK199 := n3_; have HB := n4_; clear n0_ n1_ n2_ n3_ n4_; (try clear hb); (try clear hb2); (try clear hk); (try clear hi); (try clear ho0); obtain ⟨Ao17, co17, eo17⟩ := Kd.R_slice HO211.out; subst eo17) | ((with_reducible refine gate_builtin (b := .append) (xs := #[.tmp 13, .tmp 15]) rfl ?_); at_builtin; refine Kd.R_append_rows (Kd.int .u8) (w0 := w) w.heap.size rfl (.tmp 13) (.tmp 15) 29 5 (.int .u8 0) 1 rfl Try.underlying29 info5 rfl (by decide) (by omega) v207 y206 t209 _ _ _ (fun k_ => some k_ ≠ (.slice Ao14 t203.length co14 : Value).ownBlock ∧ some k_ ≠ (.slice Ao17 t209.length co17 : Value).ownBlock) (fun _ => False) rfl rfl ?aO ?aR (fun _ _ h => h) (fun _ h => h.elim) ?aF ?aB ?aS ?aL ?_; (case aR => repeat (first | exact (Kd.R_reads' HO211.out).2.2 | (with_reducible refine Kd.C_alloc ?_ _) | (with_reducible refine Kd.C_drewN ?_ _) | (with_reducible refine Kd.C_drew ?_))); (case aB => exact (by repeat (first | (with_reducible first | exact HB.out | apply below_alloc | apply pw_below_drewN | apply below_drew1 | refine below_set ?_ GE199.out) | exact HB.out))); (case aF => exact (fun k_ hk => ⟨Kd.fresh' (Kd.R_lt (by (with_reducible repeat (first | apply Kd.R_alloc | apply Kd.R_drewN | apply Kd.R_drew)); exact HO205.out)) k_ hk, Kd.fresh' (Kd.R_lt (by (with_reducible repeat (first | apply Kd.R_alloc | apply Kd.R_drewN | apply Kd.R_drew)); exact HO211.out)) k_ hk⟩)); (case aO => exact (by (with_reducible repeat (first | apply Kd.R_alloc | apply Kd.R_drewN | apply Kd.R_drew)); exact HO208.out)); (case aS => exact (below_size (by repeat (first | (with_reducible first | exact HB.out | apply below_alloc | apply pw_below_drewN | apply below_drew1 | refine below_set ?_ GE199.out) | exact HB.out)))); (case aL => have := LMc7.out; omega); intro v213 w16 ho hb hg hat; rw [← Ny212.out] at ho; have n0_ := Aside0.mk (blk_grown (g := gb199) (o := .cells #[.int .u8 0, .int .u8 0, .int .u8 0, .int .u8 0, .int .u8 0, .int .u8 0, .int .u8 0, .int .u8 0, .int .u8 0, .int .u8 0, .int .u8 0, .int .u8 0, .int .u8 0, .int .u8 0, .int .u8 0, .int .u8 0] 26 (0, 0)) (by (with_reducible repeat (first | refine blk_drewN ?_ _ | refine blk_drew ?_ | refine blk_alloc ?_ _)); exact BK199.out) hg (Kd.R_ne HO208.out BK199.out (by decide))); have n1_ := Aside0.mk (Kd.R_after (ok := (fun k_ => some k_ ≠ (.slice Ao17 t209.length co17 : Value).ownBlock)) (by (with_reducible repeat (first | apply Kd.R_alloc | apply Kd.R_drewN | apply Kd.R_drew)); exact Kd.R_mono HO205.out (fun _ hk => ⟨hk.2, hk.1.2⟩)) hg hat); have n2_ := Aside0.mk (Kd.R_after (ok := (fun k_ => some k_ ≠ (.slice Ao14 t203.length co14 : Value).ownBlock)) (by (with_reducible repeat (first | apply Kd.R_alloc | apply Kd.R_drewN | apply Kd.R_drew)); exact Kd.R_mono HO211.out (fun _ hk => ⟨hk.1.2, hk.2⟩)) hg hat); have n3_ := Aside0.mk (hb); have n4_ := Aside0.mk (ho); clear BK199; clear HO205; clear HO211; clear HB; clear HO208; have BK199 := n0_; have HO205 := n1_; have HO211 := n2_; have HB := n3_; have HO214 := n4_; clear n0_ n1_ n2_ n3_ n4_; clear ho hb hg hat; obtain ⟨Ao18, co18, eo18⟩ := Kd.R_slice HO214.out; subst eo18) | ((with_reducible refine gate_callee (f := 158) rfl ?_); refine goesL_ (some 17) rfl rfl Try.func158 (by kernel_rfl) rfl #[.slice Ao18 y212.length co18] rfl (by (try simp only [List.map_toArray, List.map_cons, List.map_nil]); first | done | rfl | (simp only [List.length_drop, List.length_take]; rfl)) ?_; (with_reducible refine (headendref02_key.calls _ _ y212 t215 t216 t217 t218 t219 t220 t221 t222 t223 t224 t225 t226 t227 t228 t229 t230 _ ?side1 ?side2 A8.out).mono ?_); (case side1 => repeat (first | exact (Kd.R_reads' HO214.out).2.2 | (with_reducible refine Kd.C_alloc ?_ _) | (with_reducible refine Kd.C_drewN ?_ _) | (with_reducible refine Kd.C_drew ?_))); (case side2 => exact (Kd.R_reads' HO214.out).2.1); rintro e w19 ⟨rfl, hb⟩; refine ⟨_, rfl, ?_⟩; have n0_ := Aside0.mk (Kd.R_below (by (with_reducible repeat (first | apply Kd.R_alloc | apply Kd.R_drewN | apply Kd.R_drew)); exact HO205.out) hb); have n1_ := Aside0.mk (Kd.R_below (by (with_reducible repeat (first | apply Kd.R_alloc | apply Kd.R_drewN | apply Kd.R_drew)); exact HO211.out) hb); have n2_ := Aside0.mk (Kd.R_below (by (with_reducible repeat (first | apply Kd.R_alloc | apply Kd.R_drewN | apply Kd.R_drew)); exact HO214.out) hb); have n3_ := Aside0.mk (blk_below (g := gb199) (o := .cells #[.int .u8 0, .int .u8 0, .int .u8 0, .int .u8 0, .int .u8 0, .int .u8 0, .int .u8 0, .int .u8 0, .int .u8 0, .int .u8 0, .int .u8 0, .int .u8 0, .int .u8 0, .int .u8 0, .int .u8 0, .int .u8 0] 26 (0, 0)) (by (with_reducible repeat (first | refine blk_drewN ?_ _ | refine blk_drew ?_ | refine blk_alloc ?_ _)); exact BK199.out) hb); have n4_ := Aside0.mk (below_step (by repeat (first | (with_reducible first | exact HB.out | apply below_alloc | apply pw_below_drewN | apply below_drew1 | refine below_set ?_ GE199.out) | exact HB.out)) hb); clear HO205; clear HO211; clear HO214; clear BK199; clear HB; have HO205 := n0_; have HO211 := n1_; have HO214 := n2_; have BK199 := n3_; have HB := n4_; clear n0_ n1_ n2_ n3_ n4_; (try clear hb); (try clear hb2); (try clear hk); (try clear hi); have hcz20_0 : w19.cell? ⟨gb199, 0, none⟩ = some (.int .u8 0) := (blk_cell BK199.out 0).trans rfl; have hcz20_1 : w19.cell? ⟨gb199, 1, none⟩ = some (.int .u8 0) := (blk_cell BK199.out 1).trans rfl; have hcz20_2 : w19.cell? ⟨gb199, 2, none⟩ = some (.int .u8 0) := (blk_cell BK199.out 2).trans rfl; have hcz20_3 : w19.cell? ⟨gb199, 3, none⟩ = some (.int .u8 0) := (blk_cell BK199.out 3).trans rfl; have hcz20_4 : w19.cell? ⟨gb199, 4, none⟩ = some (.int .u8 0) := (blk_cell BK199.out 4).trans rfl; have hcz20_5 : w19.cell? ⟨gb199, 5, none⟩ = some (.int .u8 0) := (blk_cell BK199.out 5).trans rfl; have hcz20_6 : w19.cell? ⟨gb199, 6, none⟩ = some (.int .u8 0) := (blk_cell BK199.out 6).trans rfl; have hcz20_7 : w19.cell? ⟨gb199, 7, none⟩ = some (.int .u8 0) := (blk_cell BK199.out 7).trans rfl; have hcz20_8 : w19.cell? ⟨gb199, 8, none⟩ = some (.int .u8 0) := (blk_cell BK199.out 8).trans rfl; have hcz20_9 : w19.cell? ⟨gb199, 9, none⟩ = some (.int .u8 0) := (blk_cell BK199.out 9).trans rfl; have hcz20_10 : w19.cell? ⟨gb199, 10, none⟩ = some (.int .u8 0) := (blk_cell BK199.out 10).trans rfl; have hcz20_11 : w19.cell? ⟨gb199, 11, none⟩ = some (.int .u8 0) := (blk_cell BK199.out 11).trans rfl; have hcz20_12 : w19.cell? ⟨gb199, 12, none⟩ = some (.int .u8 0) := (blk_cell BK199.out 12).trans rfl; have hcz20_13 : w19.cell? ⟨gb199, 13, none⟩ = some (.int .u8 0) := (blk_cell BK199.out 13).trans rfl; have hcz20_14 : w19.cell? ⟨gb199, 14, none⟩ = some (.int .u8 0) := (blk_cell BK199.out 14).trans rfl; have hcz20_15 : w19.cell? ⟨gb199, 15, none⟩ = some (.int .u8 0) := (blk_cell BK199.out 15).trans rfl; have hfz20_0 := blk_frozen BK199.out 0; have hfz20_1 := blk_frozen BK199.out 1; have hfz20_2 := blk_frozen BK199.out 2; have hfz20_3 := blk_frozen BK199.out 3; have hfz20_4 := blk_frozen BK199.out 4; have hfz20_5 := blk_frozen BK199.out 5; have hfz20_6 := blk_frozen BK199.out 6; have hfz20_7 := blk_frozen BK199.out 7; have hfz20_8 := blk_frozen BK199.out 8; have hfz20_9 := blk_frozen BK199.out 9; have hfz20_10 := blk_frozen BK199.out 10; have hfz20_11 := blk_frozen BK199.out 11; have hfz20_12 := blk_frozen BK199.out 12; have hfz20_13 := blk_frozen BK199.out 13; have hfz20_14 := blk_frozen BK199.out 14; have hfz20_15 := blk_frozen BK199.out 15))
   refine bodyPost_ret (results_cell_row rfl _ _ gb199 26 #[.int .u8 t215, .int .u8 t216, .int .u8 t217, .int .u8 t218, .int .u8 t219, .int .u8 t220, .int .u8 t221, .int .u8 t222, .int .u8 t223, .int .u8 t224, .int .u8 t225, .int .u8 t226, .int .u8 t227, .int .u8 t228, .int .u8 t229, .int .u8 t230] (0, 0) _ rfl (by (with_reducible repeat (first | refine blk_drewN ?_ _ | refine blk_drew ?_ | refine blk_alloc ?_ _)); refine blk_put (cs := #[.int .u8 t215, .int .u8 t216, .int .u8 t217, .int .u8 t218, .int .u8 t219, .int .u8 t220, .int .u8 t221, .int .u8 t222, .int .u8 t223, .int .u8 t224, .int .u8 t225, .int .u8 t226, .int .u8 t227, .int .u8 t228, .int .u8 t229, .int .u8 0]) ?_ 15 _ rfl; (with_reducible repeat (first | refine blk_drewN ?_ _ | refine blk_drew ?_ | refine blk_alloc ?_ _)); refine blk_put (cs := #[.int .u8 t215, .int .u8 t216, .int .u8 t217, .int .u8 t218, .int .u8 t219, .int .u8 t220, .int .u8 t221, .int .u8 t222, .int .u8 t223, .int .u8 t224, .int .u8 t225, .int .u8 t226, .int .u8 t227, .int .u8 t228, .int .u8 0, .int .u8 0]) ?_ 14 _ rfl; (with_reducible repeat (first | refine blk_drewN ?_ _ | refine blk_drew ?_ | refine blk_alloc ?_ _)); refine blk_put (cs := #[.int .u8 t215, .int .u8 t216, .int .u8 t217, .int .u8 t218, .int .u8 t219, .int .u8 t220, .int .u8 t221, .int .u8 t222, .int .u8 t223, .int .u8 t224, .int .u8 t225, .int .u8 t226, .int .u8 t227, .int .u8 0, .int .u8 0, .int .u8 0]) ?_ 13 _ rfl; (with_reducible repeat (first | refine blk_drewN ?_ _ | refine blk_drew ?_ | refine blk_alloc ?_ _)); refine blk_put (cs := #[.int .u8 t215, .int .u8 t216, .int .u8 t217, .int .u8 t218, .int .u8 t219, .int .u8 t220, .int .u8 t221, .int .u8 t222, .int .u8 t223, .int .u8 t224, .int .u8 t225, .int .u8 t226, .int .u8 0, .int .u8 0, .int .u8 0, .int .u8 0]) ?_ 12 _ rfl; (with_reducible repeat (first | refine blk_drewN ?_ _ | refine blk_drew ?_ | refine blk_alloc ?_ _)); refine blk_put (cs := #[.int .u8 t215, .int .u8 t216, .int .u8 t217, .int .u8 t218, .int .u8 t219, .int .u8 t220, .int .u8 t221, .int .u8 t222, .int .u8 t223, .int .u8 t224, .int .u8 t225, .int .u8 0, .int .u8 0, .int .u8 0, .int .u8 0, .int .u8 0]) ?_ 11 _ rfl; (with_reducible repeat (first | refine blk_drewN ?_ _ | refine blk_drew ?_ | refine blk_alloc ?_ _)); refine blk_put (cs := #[.int .u8 t215, .int .u8 t216, .int .u8 t217, .int .u8 t218, .int .u8 t219, .int .u8 t220, .int .u8 t221, .int .u8 t222, .int .u8 t223, .int .u8 t224, .int .u8 0, .int .u8 0, .int .u8 0, .int .u8 0, .int .u8 0, .int .u8 0]) ?_ 10 _ rfl; (with_reducible repeat (first | refine blk_drewN ?_ _ | refine blk_drew ?_ | refine blk_alloc ?_ _)); refine blk_put (cs := #[.int .u8 t215, .int .u8 t216, .int .u8 t217, .int .u8 t218, .int .u8 t219, .int .u8 t220, .int .u8 t221, .int .u8 t222, .int .u8 t223, .int .u8 0, .int .u8 0, .int .u8 0, .int .u8 0, .int .u8 0, .int .u8 0, .int .u8 0]) ?_ 9 _ rfl; (with_reducible repeat (first | refine blk_drewN ?_ _ | refine blk_drew ?_ | refine blk_alloc ?_ _)); refine blk_put (cs := #[.int .u8 t215, .int .u8 t216, .int .u8 t217, .int .u8 t218, .int .u8 t219, .int .u8 t220, .int .u8 t221, .int .u8 t222, .int .u8 0, .int .u8 0, .int .u8 0, .int .u8 0, .int .u8 0, .int .u8 0, .int .u8 0, .int .u8 0]) ?_ 8 _ rfl; (with_reducible repeat (first | refine blk_drewN ?_ _ | refine blk_drew ?_ | refine blk_alloc ?_ _)); refine blk_put (cs := #[.int .u8 t215, .int .u8 t216, .int .u8 t217, .int .u8 t218, .int .u8 t219, .int .u8 t220, .int .u8 t221, .int .u8 0, .int .u8 0, .int .u8 0, .int .u8 0, .int .u8 0, .int .u8 0, .int .u8 0, .int .u8 0, .int .u8 0]) ?_ 7 _ rfl; (with_reducible repeat (first | refine blk_drewN ?_ _ | refine blk_drew ?_ | refine blk_alloc ?_ _)); refine blk_put (cs := #[.int .u8 t215, .int .u8 t216, .int .u8 t217, .int .u8 t218, .int .u8 t219, .int .u8 t220, .int .u8 0, .int .u8 0, .int .u8 0, .int .u8 0, .int .u8 0, .int .u8 0, .int .u8 0, .int .u8 0, .int .u8 0, .int .u8 0]) ?_ 6 _ rfl; (with_reducible repeat (first | refine blk_drewN ?_ _ | refine blk_drew ?_ | refine blk_alloc ?_ _)); refine blk_put (cs := #[.int .u8 t215, .int .u8 t216, .int .u8 t217, .int .u8 t218, .int .u8 t219, .int .u8 0, .int .u8 0, .int .u8 0, .int .u8 0, .int .u8 0, .int .u8 0, .int .u8 0, .int .u8 0, .int .u8 0, .int .u8 0, .int .u8 0]) ?_ 5 _ rfl; (with_reducible repeat (first | refine blk_drewN ?_ _ | refine blk_drew ?_ | refine blk_alloc ?_ _)); refine blk_put (cs := #[.int .u8 t215, .int .u8 t216, .int .u8 t217, .int .u8 t218, .int .u8 0, .int .u8 0, .int .u8 0, .int .u8 0, .int .u8 0, .int .u8 0, .int .u8 0, .int .u8 0, .int .u8 0, .int .u8 0, .int .u8 0, .int .u8 0]) ?_ 4 _ rfl; (with_reducible repeat (first | refine blk_drewN ?_ _ | refine blk_drew ?_ | refine blk_alloc ?_ _)); refine blk_put (cs := #[.int .u8 t215, .int .u8 t216, .int .u8 t217, .int .u8 0, .int .u8 0, .int .u8 0, .int .u8 0, .int .u8 0, .int .u8 0, .int .u8 0, .int .u8 0, .int .u8 0, .int .u8 0, .int .u8 0, .int .u8 0, .int .u8 0]) ?_ 3 _ rfl; (with_reducible repeat (first | refine blk_drewN ?_ _ | refine blk_drew ?_ | refine blk_alloc ?_ _)); refine blk_put (cs := #[.int .u8 t215, .int .u8 t216, .int .u8 0, .int .u8 0, .int .u8 0, .int .u8 0, .int .u8 0, .int .u8 0, .int .u8 0, .int .u8 0, .int .u8 0, .int .u8 0, .int .u8 0, .int .u8 0, .int .u8 0, .int .u8 0]) ?_ 2 _ rfl; (with_reducible repeat (first | refine blk_drewN ?_ _ | refine blk_drew ?_ | refine blk_alloc ?_ _)); refine blk_put (cs := #[.int .u8 t215, .int .u8 0, .int .u8 0, .int .u8 0, .int .u8 0, .int .u8 0, .int .u8 0, .int .u8 0, .int .u8 0, .int .u8 0, .int .u8 0, .int .u8 0, .int .u8 0, .int .u8 0, .int .u8 0, .int .u8 0]) ?_ 1 _ rfl; (with_reducible repeat (first | refine blk_drewN ?_ _ | refine blk_drew ?_ | refine blk_alloc ?_ _)); refine blk_put (cs := #[.int .u8 0, .int .u8 0, .int .u8 0, .int .u8 0, .int .u8 0, .int .u8 0, .int .u8 0, .int .u8 0, .int .u8 0, .int .u8 0, .int .u8 0, .int .u8 0, .int .u8 0, .int .u8 0, .int .u8 0, .int .u8 0]) ?_ 0 _ rfl; (with_reducible repeat (first | refine blk_drewN ?_ _ | refine blk_drew ?_ | refine blk_alloc ?_ _)); exact BK199.out) Try.underlying26 rfl (by kernel_rfl)) rfl ?_
   exact ⟨by first | rfl | (simp [errW_none, errW_some] <;> rfl) | (simp [*, errW_none, errW_some] <;> rfl), by repeat (first | (with_reducible first | exact HB.out | apply below_alloc | apply pw_below_drewN | apply below_drew1 | refine below_set ?_ GE199.out) | exact HB.out)⟩
  ·rw [if_neg c7] at H
   exact absurd H (by simp)
 ·rw [if_neg c5] at H
  exact absurd H (by simp)
end Go.Proofs.Ytafhimeoijmolaa.Z
namespace Go.Proofs.Ytafhimeoijmolaa.Z
open Go.RowKit Go.Proofs.YtafhimeoijmolaaW.PrintWords Go.Proofs.Ytafhimeoijmolaa.G Go.Proofs.Ytafhimeoijmolaa.K
def headendref02_words.f (b0 b1 b2 b3 b4 b5 b6 b7 b8 b9 b10 b11 b12 b13 b14 b15 : Int) : Option (Int × Int) :=
  if (bytesOf ⟨b0, b1, b2, b3, b4, b5, b6, b7, b8, b9, b10, b11, b12, b13, b14, b15⟩).all (fun b => decide (0 ≤ b ∧ b < 256)) = true then some (wds ⟨b0, b1, b2, b3, b4, b5, b6, b7, b8, b9, b10, b11, b12, b13, b14, b15⟩) else none
theorem headendref02_words.calls (b0 b1 b2 b3 b4 b5 b6 b7 b8 b9 b10 b11 b12 b13 b14 b15 : Int) (r1 r2 : Int) (w : World) (h : headendref02_words.f b0 b1 b2 b3 b4 b5 b6 b7 b8 b9 b10 b11 b12 b13 b14 b15 = some (r1, r2)) :
    Calls Try.prog 137 #[.agg #[.int .u8 b0, .int .u8 b1, .int .u8 b2, .int .u8 b3, .int .u8 b4, .int .u8 b5, .int .u8 b6, .int .u8 b7, .int .u8 b8, .int .u8 b9, .int .u8 b10, .int .u8 b11, .int .u8 b12, .int .u8 b13, .int .u8 b14, .int .u8 b15]] w fun e w' => e = .returned (.tuple #[.int .u64 r1, .int .u64 r2]) ∧ Below w.heap.size w w' := by
  unfold headendref02_words.f at h
  by_cases hk : (bytesOf ⟨b0, b1, b2, b3, b4, b5, b6, b7, b8, b9, b10, b11, b12, b13, b14, b15⟩).all (fun b => decide (0 ≤ b ∧ b < 256)) = true
  · rw [if_pos hk] at h
    simp only [wds, Option.some.injEq, Prod.mk.injEq] at h
    obtain ⟨rfl, rfl⟩ := h
    exact words_calls ⟨b0, b1, b2, b3, b4, b5, b6, b7, b8, b9, b10, b11, b12, b13, b14, b15⟩ (fun b hb => by have := List.all_eq_true.1 hk b hb; exact of_decide_eq_true this) w
  · rw [if_neg hk] at h; cases h
end Go.Proofs.Ytafhimeoijmolaa.Z
namespace Go.Proofs.Ytafhimeoijmolaa.Z
open Go.RowKit Go.Proofs.YtafhimeoijmolaaW.PrintWords Go.Proofs.YtafhimeoijmolaaW.PrintLast Go.Proofs.YtafhimeoijmolaaW.PrintMore
attribute [local go_sem] max2_int min2_int max_two min_two max_three min_three max_four min_four   -- for this text's walks alone
set_option linter.unusedVariables false
set_option linter.unusedSimpArgs false
def headendref02_roundKeys.l0 : Nat → Int → Int → List Int → Int → Option (List Int)
 | 0, _, _, _, _ => none
 | k + 1, x3, x4, x5, x6 => if x6 < 31 then ((headendref02_rotr.f x3 8).bind fun t108 => ((headendref02_rotl.f x4 3).bind fun t109 => (if x5.length < 17592186044416 then (headendref02_roundKeys.l0 k (Go.bits .xor .u64 (IntKind.u64.wrap (x4 + t108)) (IntKind.u64.wrap (x6))) (Go.bits .xor .u64 t109 (Go.bits .xor .u64 (IntKind.u64.wrap (x4 + t108)) (IntKind.u64.wrap (x6)))) (x5 ++ [Go.bits .xor .u64 t109 (Go.bits .xor .u64 (IntKind.u64.wrap (x4 + t108)) (IntKind.u64.wrap (x6)))]) (wrap64 (x6 + 1))) else (none)))) else (some x5)
def headendref02_roundKeys.f (k : Nat) (a0_0 : Int) (a0_1 : Int) (a0_2 : Int) (a0_3 : Int) (a0_4 : Int) (a0_5 : Int) (a0_6 : Int) (a0_7 : Int) (a0_8 : Int) (a0_9 : Int) (a0_10 : Int) (a0_11 : Int) (a0_12 : Int) (a0_13 : Int) (a0_14 : Int) (a0_15 : Int) : Option (List Int) := (headendref02_words.f a0_0 a0_1 a0_2 a0_3 a0_4 a0_5 a0_6 a0_7 a0_8 a0_9 a0_10 a0_11 a0_12 a0_13 a0_14 a0_15).bind fun bt103 => (headendref02_roundKeys.l0 k bt103.1 bt103.2 (([bt103.2] : List Int)) 0)
set_option maxHeartbeats 8000000 in
set_option maxRecDepth 100000 in
theorem headendref02_roundKeys.calls (k : Nat) (a0_0 : Int) (a0_1 : Int) (a0_2 : Int) (a0_3 : Int) (a0_4 : Int) (a0_5 : Int) (a0_6 : Int) (a0_7 : Int) (a0_8 : Int) (a0_9 : Int) (a0_10 : Int) (a0_11 : Int) (a0_12 : Int) (a0_13 : Int) (a0_14 : Int) (a0_15 : Int) (r : List Int) (w : World) (h : headendref02_roundKeys.f k a0_0 a0_1 a0_2 a0_3 a0_4 a0_5 a0_6 a0_7 a0_8 a0_9 a0_10 a0_11 a0_12 a0_13 a0_14 a0_15 = some r) :
  Calls Try.prog 138 #[.agg #[.int .u8 a0_0, .int .u8 a0_1, .int .u8 a0_2, .int .u8 a0_3, .int .u8 a0_4, .int .u8 a0_5, .int .u8 a0_6, .int .u8 a0_7, .int .u8 a0_8, .int .u8 a0_9, .int .u8 a0_10, .int .u8 a0_11, .int .u8 a0_12, .int .u8 a0_13, .int .u8 a0_14, .int .u8 a0_15]] w fun e w' => ∃ v0_ : Value, e = .returned (v0_) ∧ Kd.R (Kd.int .u64) 23 w' w.heap.size (fun _ => True) v0_ r ∧ Below w.heap.size w w' := by
 have hu26 := Try.underlying26
 have HB := Aside0.mk (Below.refl w.heap.size w)
 have H : ((headendref02_words.f a0_0 a0_1 a0_2 a0_3 a0_4 a0_5 a0_6 a0_7 a0_8 a0_9 a0_10 a0_11 a0_12 a0_13 a0_14 a0_15).bind fun bt103 => (headendref02_roundKeys.l0 k bt103.1 bt103.2 (([bt103.2] : List Int)) 0)) = some r := h
 clear h
 replace H := Option.bind_eq_some_iff.mp H
 obtain ⟨⟨t103, t104⟩, A20, H⟩ := H
 replace H : (headendref02_roundKeys.l0 k t103 t104 (([t104] : List Int)) 0) = some r := H
 have A2 := Aside0.mk A20
 clear A20
 obtain ⟨y105, hy105⟩ : ∃ y_ : List Int, y_ = (([t104] : List Int)) := ⟨_, rfl⟩
 replace H : (headendref02_roundKeys.l0 k t103 t104 y105 0) = some r := by first | (rw [hy105]; with_reducible exact H) | (have H2_ := (Option.bind_some _ _).symm.trans H; rw [hy105]; with_reducible exact H2_) | (have H2_ := (Option.bind_some _ _).symm.trans H; with_reducible exact H2_) | with_reducible exact H | (rw [hy105]; exact H) | exact H
 have Ny105 := Aside0.mk hy105
 clear hy105
 have H' := Aside0.mk H
 clear H
 go_enter Try.func138, Try.ntmps138
 go_wp2_with (first | ((with_reducible refine gate_dst (N := 1) rfl ?_); refine box_event ?hg (N := 1) ?hd (cs := #[.int .u8 a0_0, .int .u8 a0_1, .int .u8 a0_2, .int .u8 a0_3, .int .u8 a0_4, .int .u8 a0_5, .int .u8 a0_6, .int .u8 a0_7, .int .u8 a0_8, .int .u8 a0_9, .int .u8 a0_10, .int .u8 a0_11, .int .u8 a0_12, .int .u8 a0_13, .int .u8 a0_14, .int .u8 a0_15]) (t := 26) ?hr ?_; (case hd => rfl); (case hg => rfl); (case hr => first | (go_simp; done) | (go_simp; rfl)); intro gb102 hg w3 hbox hb; have n0_ := Aside0.mk (below_step (by repeat (first | (with_reducible first | exact HB.out | apply below_alloc | apply pw_below_drewN | apply below_drew1) | exact HB.out)) hb); have n1_ := Aside0.mk (hbox); have n2_ := Aside0.mk ((by rw [hg]; exact (below_size (by repeat (first | (with_reducible first | exact HB.out | apply below_alloc | apply pw_below_drewN | apply below_drew1) | exact HB.out))) : w.heap.size ≤ gb102)); have n3_ := Aside0.mk ((by rw [hg]; exact (below_size (by repeat (first | (with_reducible first | exact HB.out | apply below_alloc | apply pw_below_drewN | apply below_drew1) | exact HB.out))) : w.heap.size ≤ gb102)); clear HB; have HB := n0_; have BK102 := n1_; have GW102 := n2_; have GE102 := n3_; clear n0_ n1_ n2_ n3_; clear hb hbox hg; have hcz4_0 : w3.cell? ⟨gb102, 0, none⟩ = some (.int .u8 a0_0) := (blk_cell BK102.out 0).trans rfl; have hcz4_1 : w3.cell? ⟨gb102, 1, none⟩ = some (.int .u8 a0_1) := (blk_cell BK102.out 1).trans rfl; have hcz4_2 : w3.cell? ⟨gb102, 2, none⟩ = some (.int .u8 a0_2) := (blk_cell BK102.out 2).trans rfl; have hcz4_3 : w3.cell? ⟨gb102, 3, none⟩ = some (.int .u8 a0_3) := (blk_cell BK102.out 3).trans rfl; have hcz4_4 : w3.cell? ⟨gb102, 4, none⟩ = some (.int .u8 a0_4) := (blk_cell BK102.out 4).trans rfl; have hcz4_5 : w3.cell? ⟨gb102, 5, none⟩ = some (.int .u8 a0_5) := (blk_cell BK102.out 5).trans rfl; have hcz4_6 : w3.cell? ⟨gb102, 6, none⟩ = some (.int .u8 a0_6) := (blk_cell BK102.out 6).trans rfl; have hcz4_7 : w3.cell? ⟨gb102, 7, none⟩ = some (.int .u8 a0_7) := (blk_cell BK102.out 7).trans rfl; have hcz4_8 : w3.cell? ⟨gb102, 8, none⟩ = some (.int .u8 a0_8) := (blk_cell BK102.out 8).trans rfl; have hcz4_9 : w3.cell? ⟨gb102, 9, none⟩ = some (.int .u8 a0_9) := (blk_cell BK102.out 9).trans rfl; have hcz4_10 : w3.cell? ⟨gb102, 10, none⟩ = some (.int .u8 a0_10) := (blk_cell BK102.out 10).trans rfl; have hcz4_11 : w3.cell? ⟨gb102, 11, none⟩ = some (.int .u8 a0_11) := (blk_cell BK102.out 11).trans rfl; have hcz4_12 : w3.cell? ⟨gb102, 12, none⟩ = some (.int .u8 a0_12) := (blk_cell BK102.out 12).trans rfl; have hcz4_13 : w3.cell? ⟨gb102, 13, none⟩ = some (.int .u8 a0_13) := (blk_cell BK102.out 13).trans rfl; have hcz4_14 : w3.cell? ⟨gb102, 14, none⟩ = some (.int .u8 a0_14) := (blk_cell BK102.out 14).trans rfl; have hcz4_15 : w3.cell? ⟨gb102, 15, none⟩ = some (.int .u8 a0_15) := (blk_cell BK102.out 15).trans rfl; have hfz4_0 := blk_frozen BK102.out 0; have hfz4_1 := blk_frozen BK102.out 1; have hfz4_2 := blk_frozen BK102.out 2; have hfz4_3 := blk_frozen BK102.out 3; have hfz4_4 := blk_frozen BK102.out 4; have hfz4_5 := blk_frozen BK102.out 5; have hfz4_6 := blk_frozen BK102.out 6; have hfz4_7 := blk_frozen BK102.out 7; have hfz4_8 := blk_frozen BK102.out 8; have hfz4_9 := blk_frozen BK102.out 9; have hfz4_10 := blk_frozen BK102.out 10; have hfz4_11 := blk_frozen BK102.out 11; have hfz4_12 := blk_frozen BK102.out 12; have hfz4_13 := blk_frozen BK102.out 13; have hfz4_14 := blk_frozen BK102.out 14; have hfz4_15 := blk_frozen BK102.out 15) | ((with_reducible refine gate_callee (f := 137) rfl ?_); refine goesL_ (some 9) rfl rfl Try.func137 (by kernel_rfl) rfl #[.agg #[.int .u8 a0_0, .int .u8 a0_1, .int .u8 a0_2, .int .u8 a0_3, .int .u8 a0_4, .int .u8 a0_5, .int .u8 a0_6, .int .u8 a0_7, .int .u8 a0_8, .int .u8 a0_9, .int .u8 a0_10, .int .u8 a0_11, .int .u8 a0_12, .int .u8 a0_13, .int .u8 a0_14, .int .u8 a0_15]] rfl (by (try simp only [List.map_toArray, List.map_cons, List.map_nil]); first | done | rfl | (simp only [List.length_drop, List.length_take]; rfl)) ?_; (with_reducible refine (headendref02_words.calls a0_0 a0_1 a0_2 a0_3 a0_4 a0_5 a0_6 a0_7 a0_8 a0_9 a0_10 a0_11 a0_12 a0_13 a0_14 a0_15 t103 t104 _ A2.out).mono ?_); rintro e w5 ⟨rfl, hb⟩; refine ⟨_, rfl, ?_⟩; have n0_ := Aside0.mk (blk_below (g := gb102) (o := .cells #[.int .u8 a0_0, .int .u8 a0_1, .int .u8 a0_2, .int .u8 a0_3, .int .u8 a0_4, .int .u8 a0_5, .int .u8 a0_6, .int .u8 a0_7, .int .u8 a0_8, .int .u8 a0_9, .int .u8 a0_10, .int .u8 a0_11, .int .u8 a0_12, .int .u8 a0_13, .int .u8 a0_14, .int .u8 a0_15] 26 (0, 0)) (by (with_reducible repeat (first | refine blk_drewN ?_ _ | refine blk_drew ?_ | refine blk_alloc ?_ _)); exact BK102.out) hb); have n1_ := Aside0.mk (below_step (by repeat (first | (with_reducible first | exact HB.out | apply below_alloc | apply pw_below_drewN | apply below_drew1 | refine below_set ?_ GE102.out) | exact HB.out)) hb); clear BK102; clear HB; have BK102 := n0_; have HB := n1_; clear n0_ n1_; (try clear hb); (try clear hb2); (try clear hk); (try clear hi)) | ((with_reducible refine gate_dst (N := 13) rfl ?_); refine Kd.R_lit (Kd.int .u64) _ 23 ?hg (N := 13) ?hd (xs := ([t104] : List Int)) (inner := [.int .u64 t104]) (ok := fun _ => True) (okp := fun _ => True) ?hr ?hp (fun _ hk => hk) trivial (Below.refl _ _) (Nat.le_refl _) (by simp) ?_; (case hd => rfl); (case hg => rfl); (case hr => first | (go_simp; done) | (go_simp; rfl)); (case hp => exact (Reps.one (show Kd.M (Kd.int .u64) _ _ _ t104 [.int .u64 t104] from rfl) (Reps.none _ _))); intro v106 w6 ho7 hb hg_ hnew_; clear hg_ hnew_; (first | rw [← Ny105.out] at ho7 | (simp only [Int.reduceToNat] at ho7; rw [← Ny105.out] at ho7)); have n0_ := Aside0.mk (Kd.R_lower ho7 (below_size (by repeat (first | (with_reducible first | exact HB.out | apply below_alloc | apply pw_below_drewN | apply below_drew1 | refine below_set ?_ GE102.out) | exact HB.out)))); have n1_ := Aside0.mk (blk_below (g := gb102) (o := .cells #[.int .u8 a0_0, .int .u8 a0_1, .int .u8 a0_2, .int .u8 a0_3, .int .u8 a0_4, .int .u8 a0_5, .int .u8 a0_6, .int .u8 a0_7, .int .u8 a0_8, .int .u8 a0_9, .int .u8 a0_10, .int .u8 a0_11, .int .u8 a0_12, .int .u8 a0_13, .int .u8 a0_14, .int .u8 a0_15] 26 (0, 0)) (by (with_reducible repeat (first | refine blk_drewN ?_ _ | refine blk_drew ?_ | refine blk_alloc ?_ _)); exact BK102.out) hb); have n2_ := Aside0.mk (below_step (by repeat (first | (with_reducible first | exact HB.out | apply below_alloc | apply pw_below_drewN | apply below_drew1 | refine below_set ?_ GE102.out) | exact HB.out)) hb); clear BK102; clear HB; have HO107 := n0_; have BK102 := n1_; have HB := n2_; clear n0_ n1_ n2_; clear hb ho7))
 go_loopg [3, 4, 5, 6] k (fun kq v3 v4 v5 v6 w' => ∃ (x3_1 : Int) (x4_1 : Int) (x5_1 : List Int) (x6_1 : Int), v3 = .int .u64 x3_1 ∧ v4 = .int .u64 x4_1 ∧ v6 = .int .i64 x6_1 ∧ Aside0 (headendref02_roundKeys.l0 kq x3_1 x4_1 x5_1 x6_1 = some r) ∧ Aside0 (kq ≤ k) ∧ Aside0 (Kd.R (Kd.int .u64) 23 w' w.heap.size (fun _ => True) v5 x5_1) ∧ Aside0 (w'.heap[gb102]? = some (.cells #[.int .u8 a0_0, .int .u8 a0_1, .int .u8 a0_2, .int .u8 a0_3, .int .u8 a0_4, .int .u8 a0_5, .int .u8 a0_6, .int .u8 a0_7, .int .u8 a0_8, .int .u8 a0_9, .int .u8 a0_10, .int .u8 a0_11, .int .u8 a0_12, .int .u8 a0_13, .int .u8 a0_14, .int .u8 a0_15] 26 (0, 0))) ∧ Aside0 (Below w.heap.size w w'))
 case atStart => exact ⟨(t103), (t104), (y105), (0), (by first | rfl | (simp; done) | (simp [*]; done)), (by first | rfl | (simp; done) | (simp [*]; done)), (by first | rfl | (simp; done) | (simp [*]; done)), H', ⟨Nat.le_refl _⟩, ⟨by (with_reducible repeat (first | apply Kd.R_alloc | apply Kd.R_drewN | apply Kd.R_drew)); exact HO107.out⟩, ⟨by (with_reducible repeat (first | refine blk_drewN ?_ _ | refine blk_drew ?_ | refine blk_alloc ?_ _)); exact BK102.out⟩, ⟨by repeat (first | (with_reducible first | exact HB.out | apply below_alloc | apply pw_below_drewN | apply below_drew1 | refine below_set ?_ GE102.out) | exact HB.out)⟩⟩
 case round =>
  clear H'
  try clear c1
  try clear p2
  try clear hcz4_0
  try clear hcz4_1
  try clear hcz4_10
  try clear hcz4_11
  try clear hcz4_12
  try clear hcz4_13
  try clear hcz4_14
  try clear hcz4_15
  try clear hcz4_2
  try clear hcz4_3
  try clear hcz4_4
  try clear hcz4_5
  try clear hcz4_6
  try clear hcz4_7
  try clear hcz4_8
  try clear hcz4_9
  try clear hfz4_0
  try clear hfz4_1
  try clear hfz4_10
  try clear hfz4_11
  try clear hfz4_12
  try clear hfz4_13
  try clear hfz4_14
  try clear hfz4_15
  try clear hfz4_2
  try clear hfz4_3
  try clear hfz4_4
  try clear hfz4_5
  try clear hfz4_6
  try clear hfz4_7
  try clear hfz4_8
  try clear hfz4_9
  obtain ⟨x3_1, x4_1, x5_1, x6_1, rfl, rfl, rfl, HA, HK1, HO_5, BK102, HB⟩ := hrel
  cases gk with
  | zero => exact absurd HA.out (by simp [headendref02_roundKeys.l0])
  | succ k1 =>
   have H := HA.out
   clear HA
   simp only [headendref02_roundKeys.l0] at H
   by_cases c8 : x6_1 < 31
   ·rw [if_pos c8] at H
    have c8b0 : decide (x6_1 < 31) = true := decide_eq_true c8
    clear c8
    replace H := Option.bind_eq_some_iff.mp H
    obtain ⟨t108, A90, H⟩ := H
    replace H : ((headendref02_rotl.f x4_1 3).bind fun t109 => (if x5_1.length < 17592186044416 then (headendref02_roundKeys.l0 k1 (Go.bits .xor .u64 (IntKind.u64.wrap (x4_1 + t108)) (IntKind.u64.wrap (x6_1))) (Go.bits .xor .u64 t109 (Go.bits .xor .u64 (IntKind.u64.wrap (x4_1 + t108)) (IntKind.u64.wrap (x6_1)))) (x5_1 ++ [Go.bits .xor .u64 t109 (Go.bits .xor .u64 (IntKind.u64.wrap (x4_1 + t108)) (IntKind.u64.wrap (x6_1)))]) (wrap64 (x6_1 + 1))) else (none))) = some r := H
    have A9 := Aside0.mk A90
    clear A90
    replace H := Option.bind_eq_some_iff.mp H
    obtain ⟨t109, A100, H⟩ := H
    replace H : (if x5_1.length < 17592186044416 then (headendref02_roundKeys.l0 k1 (Go.bits .xor .u64 (IntKind.u64.wrap (x4_1 + t108)) (IntKind.u64.wrap (x6_1))) (Go.bits .xor .u64 t109 (Go.bits .xor .u64 (IntKind.u64.wrap (x4_1 + t108)) (IntKind.u64.wrap (x6_1)))) (x5_1 ++ [Go.bits .xor .u64 t109 (Go.bits .xor .u64 (IntKind.u64.wrap (x4_1 + t108)) (IntKind.u64.wrap (x6_1)))]) (wrap64 (x6_1 + 1))) else (none)) = some r := H
    have A10 := Aside0.mk A100
    clear A100
    by_cases c11 : x5_1.length < 17592186044416
    ·rw [if_pos c11] at H
     have LMc11 := Aside0.mk c11
     clear c11
     obtain ⟨y110, hy110⟩ : ∃ y_ : List Int, y_ = (x5_1 ++ [Go.bits .xor .u64 t109 (Go.bits .xor .u64 (IntKind.u64.wrap (x4_1 + t108)) (IntKind.u64.wrap (x6_1)))]) := ⟨_, rfl⟩
     replace H : (headendref02_roundKeys.l0 k1 (Go.bits .xor .u64 (IntKind.u64.wrap (x4_1 + t108)) (IntKind.u64.wrap (x6_1))) (Go.bits .xor .u64 t109 (Go.bits .xor .u64 (IntKind.u64.wrap (x4_1 + t108)) (IntKind.u64.wrap (x6_1)))) y110 (wrap64 (x6_1 + 1))) = some r := by first | (rw [hy110]; with_reducible exact H) | (have H2_ := (Option.bind_some _ _).symm.trans H; rw [hy110]; with_reducible exact H2_) | (have H2_ := (Option.bind_some _ _).symm.trans H; with_reducible exact H2_) | with_reducible exact H | (rw [hy110]; exact H) | exact H
     have Ny110 := Aside0.mk hy110
     clear hy110
     have H' := Aside0.mk H
     clear H
     go_wp2_with (first | ((with_reducible refine gate_callee (f := 139) rfl ?_); refine goesL_ (some 20) rfl rfl Try.func139 (by kernel_rfl) rfl #[.int .u64 x3_1, .int .i64 8] rfl (by (try simp only [List.map_toArray, List.map_cons, List.map_nil]); first | done | rfl | (simp only [List.length_drop, List.length_take]; rfl)) ?_; (with_reducible refine (headendref02_rotr.calls x3_1 8 t108 _ A9.out).mono ?_); rintro e w' ⟨rfl, ⟨nd, rfl⟩⟩; refine ⟨_, rfl, ?_⟩) | ((with_reducible refine gate_callee (f := 140) rfl ?_); refine goesL_ (some 26) rfl rfl Try.func140 (by kernel_rfl) rfl #[.int .u64 x4_1, .int .i64 3] rfl (by (try simp only [List.map_toArray, List.map_cons, List.map_nil]); first | done | rfl | (simp only [List.length_drop, List.length_take]; rfl)) ?_; (with_reducible refine (headendref02_rotl.calls x4_1 3 t109 _ A10.out).mono ?_); rintro e w' ⟨rfl, ⟨nd, rfl⟩⟩; refine ⟨_, rfl, ?_⟩) | ((with_reducible refine gate_builtin (b := .append) (xs := #[.tmp 29, .tmp 31]) rfl ?_); at_builtin; refine Kd.R_append (Kd.int .u64) (w0 := w) w.heap.size rfl (.tmp 29) (.tmp 31) 200 23 (.int .u64 0) 8 rfl Try.underlying200 info23 rfl (by decide) (by omega) u5 x5_1 (Go.bits .xor .u64 t109 (Go.bits .xor .u64 (IntKind.u64.wrap (x4_1 + t108)) (IntKind.u64.wrap (x6_1)))) [.int .u64 (Go.bits .xor .u64 t109 (Go.bits .xor .u64 (IntKind.u64.wrap (x4_1 + t108)) (IntKind.u64.wrap (x6_1))))] (fun _ => True) (fun _ => False) rfl rfl ?aP (fun _ hk => hk.elim) ?aF ?aO ?aB ?aS ?aL ?_; (case aP => exact rfl); (case aB => exact (by repeat (first | (with_reducible first | exact HB.out | apply below_alloc | apply pw_below_drewN | apply below_drew1 | refine below_set ?_ GE102.out) | exact HB.out))); (case aF => exact (fun _ _ => trivial)); (case aO => exact (by (with_reducible repeat (first | apply Kd.R_alloc | apply Kd.R_drewN | apply Kd.R_drew)); exact HO_5.out)); (case aS => exact (below_size (by repeat (first | (with_reducible first | exact HB.out | apply below_alloc | apply pw_below_drewN | apply below_drew1 | refine below_set ?_ GE102.out) | exact HB.out)))); (case aL => have := LMc11.out; omega); intro v111 w12 ho hb hg hat; rw [← Ny110.out] at ho; have n0_ := Aside0.mk (blk_grown (g := gb102) (o := .cells #[.int .u8 a0_0, .int .u8 a0_1, .int .u8 a0_2, .int .u8 a0_3, .int .u8 a0_4, .int .u8 a0_5, .int .u8 a0_6, .int .u8 a0_7, .int .u8 a0_8, .int .u8 a0_9, .int .u8 a0_10, .int .u8 a0_11, .int .u8 a0_12, .int .u8 a0_13, .int .u8 a0_14, .int .u8 a0_15] 26 (0, 0)) (by (with_reducible repeat (first | refine blk_drewN ?_ _ | refine blk_drew ?_ | refine blk_alloc ?_ _)); exact BK102.out) hg (Kd.R_ne HO_5.out BK102.out (by decide))); have n1_ := Aside0.mk (hb); have n2_ := Aside0.mk (ho); clear BK102; clear HB; clear HO_5; have BK102 := n0_; have HB := n1_; have HO112 := n2_; clear n0_ n1_ n2_; clear ho hb hg hat))
     go_roundg k1
     case measure => have := HK1.out; omega
     case rel => exact ⟨(Go.bits .xor .u64 (IntKind.u64.wrap (x4_1 + t108)) (IntKind.u64.wrap (x6_1))), (Go.bits .xor .u64 t109 (Go.bits .xor .u64 (IntKind.u64.wrap (x4_1 + t108)) (IntKind.u64.wrap (x6_1)))), (y110), (wrap64 (x6_1 + 1)), (by first | rfl | (simp; done) | (simp [*]; done)), (by first | rfl | (simp; done) | (simp [*]; done)), (by first | rfl | (simp; done) | (simp [*]; done)), H', ⟨by have := HK1.out; omega⟩, ⟨by (with_reducible repeat (first | apply Kd.R_alloc | apply Kd.R_drewN | apply Kd.R_drew)); exact HO112.out⟩, ⟨by (with_reducible repeat (first | refine blk_drewN ?_ _ | refine blk_drew ?_ | refine blk_alloc ?_ _)); exact BK102.out⟩, ⟨by repeat (first | (with_reducible first | exact HB.out | apply below_alloc | apply pw_below_drewN | apply below_drew1 | refine below_set ?_ GE102.out) | exact HB.out)⟩⟩
    ·rw [if_neg c11] at H
     exact absurd H (by simp)
   ·rw [if_neg c8] at H
    have c8b0 : decide (x6_1 < 31) = false := decide_eq_false c8
    clear c8
    obtain rfl := Option.some.inj H
    go_wp2
    go_ret
    exact ⟨_, by first | rfl | (simp [errW_none, errW_some] <;> rfl) | (simp [*, errW_none, errW_some] <;> rfl), by (with_reducible repeat (first | apply Kd.R_alloc | apply Kd.R_drewN | apply Kd.R_drew)); exact HO_5.out, by repeat (first | (with_reducible first | exact HB.out | apply below_alloc | apply pw_below_drewN | apply below_drew1 | refine below_set ?_ GE102.out) | exact HB.out)⟩
end Go.Proofs.Ytafhimeoijmolaa.Z
namespace Go.Proofs.Ytafhimeoijmolaa.K
open Go.RowKit Go.Proofs.YtafhimeoijmolaaW.PrintWords Go.Proofs.YtafhimeoijmolaaW.PrintMore Go.Proofs.Ytafhimeoijmolaa.G
set_option linter.unusedVariables false
theorem rblock_calls (x y : Int) (hx : WOK x) (hy : WOK y) (w : World) :
    Calls Try.prog 141 #[.int .u64 x, .int .u64 y] w fun e w' => e = .returned (kv (blockK x y)) ∧ Below w.heap.size w w' := by
  refine Z.headendref02_block.calls 9 x y (blockK x y).f0 (blockK x y).f1 (blockK x y).f2 (blockK x y).f3 (blockK x y).f4 (blockK x y).f5 (blockK x y).f6 (blockK x y).f7 (blockK x y).f8 (blockK x y).f9 (blockK x y).f10 (blockK x y).f11 (blockK x y).f12 (blockK x y).f13 (blockK x y).f14 (blockK x y).f15 w ?_
  unfold Z.headendref02_block.f
  rw [bytes_f8 x hx, bytes_f8 y hy]
  rfl
theorem rBlock_calls (tag n : Int) (ht : 0 ≤ tag ∧ tag < 256) (hn : WOK n) (w : World) :
    Calls Try.prog 136 #[.int .u8 tag, .int .u64 0, .int .u64 n] w fun e w' => e = .returned (kv (blockOfK tag 0 n)) ∧ Below w.heap.size w w' := by
  have e1 : Go.bits .or .u64 (IntKind.u64.wrap (IntKind.u64.wrap tag * 72057594037927936)) 0 = tag * 72057594037927936 := by
    rw [wraps_u64 tag ht.1 (by omega), wraps_u64 _ (by omega) (by omega), bits_join .u64 64 (by decide) wraps_u64 8] <;> omega
  have e2 : blockOfK tag 0 n = ⟨tag, 0, 0, 0, 0, 0, 0, 0, byteAt n 0, byteAt n 1, byteAt n 2, byteAt n 3, byteAt n 4, byteAt n 5, byteAt n 6, byteAt n 7⟩ := by
    unfold blockOfK
    rw [e1]
    simp only [blockK, S26.mk.injEq, and_true]
    simp only [byteAt]
    refine ⟨?_, ?_, ?_, ?_, ?_, ?_, ?_, ?_⟩ <;> simp <;> omega
  rw [e2]
  refine Z.headendref02_Block.calls 9 tag 0 n tag 0 0 0 0 0 0 0 (byteAt n 0) (byteAt n 1) (byteAt n 2) (byteAt n 3) (byteAt n 4) (byteAt n 5) (byteAt n 6) (byteAt n 7) w ?_
  unfold Z.headendref02_Block.f
  rw [show Z.headendref02_Bytes.f 9 0 7 = some [0, 0, 0, 0, 0, 0, 0] from Z.headendref02_Bytes.mono _ _ _ _ bytes_f7, bytes_f8 n hn]
  rfl
def rks (p : Int × Int) (n : Nat) : List Int := (List.range n).map fun i => (ks p i).2
theorem rks_succ (p : Int × Int) (n : Nat) : rks p (n + 1) = rks p n ++ [(ks p n).2] := by simp [rks, List.range_succ]
theorem rk_l0 (p : Int × Int) : ∀ (k i : Nat), i + k = 32 → 0 < k → Z.headendref02_roundKeys.l0 k (ks p i).1 (ks p i).2 (rks p (i + 1)) (i : Int) = some (rks p 32)
  | 0, i, h, h0 => absurd h0 (by omega)
  | k + 1, i, h, h0 => by
    rw [Z.headendref02_roundKeys.l0]
    by_cases hi : i < 31
    · have e1 : wrap64 ((i : Int) + 1) = ((i + 1 : Nat) : Int) := by simp [wrap64]; omega
      have e2 : IntKind.u64.wrap (i : Int) = i := wraps_u64 _ (by omega) (by omega)
      rw [if_pos (by omega), rotr_8, rotl_3]
      simp only [Option.bind_some]
      rw [if_pos (by simp [rks]; omega), e1, e2, Int.add_comm (ks p i).2, ← rk_l0 p k (i + 1) (by omega) (by omega), rks_succ p (i + 1)]
      rfl
    · obtain rfl : i = 31 := by omega
      rw [if_neg (by omega)]
theorem roundKeys_calls (k : S26) (hk : KOK k) (w : World) :
    Calls Try.prog 138 #[kv k] w fun e w' => ∃ v : Value, e = .returned v ∧ Kd.R (Kd.int .u64) 23 w' w.heap.size (fun _ => True) v (rks (wds k) 32) ∧ Below w.heap.size w w' := by
  refine Z.headendref02_roundKeys.calls 32 k.f0 k.f1 k.f2 k.f3 k.f4 k.f5 k.f6 k.f7 k.f8 k.f9 k.f10 k.f11 k.f12 k.f13 k.f14 k.f15 _ w ?_
  unfold Z.headendref02_roundKeys.f Z.headendref02_words.f
  rw [if_pos (List.all_eq_true.2 fun b hb => decide_eq_true (hk b hb)), Option.bind_some]
  have h := rk_l0 (wds k) 32 0 (by omega) (by omega)
  have e : rks (wds k) (0 + 1) = [(wds k).2] := rfl
  have e2 : ks (wds k) 0 = wds k := rfl
  rw [e, e2] at h
  exact h
end Go.Proofs.Ytafhimeoijmolaa.K
namespace Go.Proofs.Ytafhimeoijmolaa.K
open Go.RowKit Go.Proofs.YtafhimeoijmolaaW.PrintWords Go.Proofs.YtafhimeoijmolaaW.PrintLast Go.Proofs.YtafhimeoijmolaaW.PrintMore Go.Proofs.Ytafhimeoijmolaa.G
set_option linter.unusedVariables false
set_option linter.unusedSimpArgs false
theorem wds_ok {k : S26} (h : KOK k) : POK (wds k) := ⟨wordX_ok h, wordY_ok h⟩
theorem encN_ok {k p : Int × Int} (h : POK p) : ∀ i, POK (encN k p i)
  | 0 => h
  | i + 1 => rnd_ok _ _
theorem rks_at (p : Int × Int) (i : Nat) (hi : i < 32) : (rks p 32).getD i 0 = (ks p i).2 := by simp [rks, hi]
set_option maxHeartbeats 4000000 in
set_option maxRecDepth 100000 in
theorem rEncrypt_calls (k b : S26) (hk : KOK k) (hb : KOK b) (w : World) :
    Calls Try.prog 90 #[kv k, kv b] w fun e w' => e = .returned (kv (encK k b)) ∧ Below w.heap.size w w' := by
  have hu26 := Try.underlying26
  have HKk := Aside0.mk hk
  have HKb := Aside0.mk hb
  clear hk hb
  go_enter Try.func90, Try.ntmps90
  go_wp2_with fail
  go_at_call 137
  refine (words_calls b HKb.out _).mono ?_
  rintro e1 w1 ⟨rfl, hb1⟩
  have hK1 : w1.heap[w.heap.size]? = some (.cells (kc k) 26 (0, 0)) := blk_to (blk_alloc (blk_alloc (newAt rfl) _) _) hb1
  have hR1 : w1.heap[w.heap.size + 1 + 1]? = some (.cells (kc z26) 26 (0, 0)) := blk_to (newAt (by simp)) hb1
  have hB1 : Below w.heap.size w w1 := ((((Below.refl _ w).alloc (Nat.le_refl _) _).alloc (by simp) _).alloc (by simp; omega) _).trans (hb1.mono (by simp; omega))
  have HR1 := Aside0.mk hR1; have HB1 := Aside0.mk hB1
  obtain ⟨c0, c1, c2, c3, c4, c5, c6, c7, c8, c9, c10, c11, c12, c13, c14, c15⟩ := cells16 hK1
  clear hb1 hK1 hR1 hB1
  go_wp2_with fail
  go_at_call 138
  refine (roundKeys_calls k HKk.out _).mono ?_
  rintro e2 w2 ⟨v2, rfl, hr2, hb2⟩
  obtain ⟨A, c, rfl, hlc, hC⟩ := Kd.R_reads hr2
  have hl32 : (rks (wds k) 32).length = 32 := by simp [rks]
  rw [hl32] at hlc hC ⊢
  have HR2 := Aside0.mk (blk_to HR1.out hb2); have HB2 := Aside0.mk (HB1.out.trans (hb2.mono HB1.out.size)); have HC2 := Aside0.mk hC
  obtain ⟨ad, rfl, -⟩ := at_ints hC 0 (by omega)
  clear hr2 hb2 hC HR1 HB1 c0 c1 c2 c3 c4 c5 c6 c7 c8 c9 c10 c11 c12 c13 c14 c15
  go_wp2
  go_loopg [5, 6, 8] 32 (fun kq v5 v6 v8 w' => ∃ i : Nat, v8 = .int .i64 (i : Int) ∧ v5 = .int .u64 (encN (wds k) (wds b) i).1 ∧ v6 = .int .u64 (encN (wds k) (wds b) i).2 ∧ Aside0 (i + kq = 32) ∧ Aside0 (w'.heap[w.heap.size + 1 + 1]? = some (.cells (kc z26) 26 (0, 0))) ∧ Aside0 (Kd.C (Kd.int .u64) w' (some ad) 32 (rks (wds k) 32)) ∧ Aside0 (Below w.heap.size w w'))
  case atStart => exact ⟨0, rfl, rfl, rfl, ⟨rfl⟩, HR2, HC2, HB2⟩
  case round =>
    obtain ⟨i, rfl, rfl, rfl, HI, B0, B1, HB⟩ := hrel
    obtain ⟨q, hq⟩ : ∃ q, q = encN (wds k) (wds b) i := ⟨_, rfl⟩
    have hq' := Aside0.mk hq
    rw [← hq]
    clear hq
    by_cases hi : i < 32
    · have b0 : decide ((i : Int) < 32) = true := decide_eq_true (by omega)
      have b1 : (i : Int) < 32 := by omega
      have hi' := Aside0.mk hi
      obtain ⟨ad2, e2, c0⟩ := at_ints B1.out i (by omega)
      obtain rfl := Option.some.inj e2
      rw [rks_at _ _ hi] at c0
      clear hi e2
      go_wp2_with fail
      go_quiet ((go_at_call 139; exact Calls.quiet_of (Calls.mono (Z.headendref02_rotr.calls _ _ _ _ (rotr_8 _)) (fun e w' h => ⟨h.1, h.2.out⟩))))
      go_wp2_with fail
      go_at_call 140
      refine (Z.headendref02_rotl.calls _ _ _ _ (rotl_3 _)).mono ?_
      rintro e3 w3 ⟨rfl, ⟨n3, rfl⟩⟩
      go_wp2
      obtain ⟨gq, rfl⟩ : ∃ gq, gk = gq + 1 := ⟨gk - 1, by have := hi'.out; have := HI.out; omega⟩
      go_roundg gq
      case measure => omega
      case rel =>
        refine ⟨i + 1, by have := hi'.out; first | (simp; done) | (simp [wrap64]; omega), ?_, ?_, ⟨by have := HI.out; omega⟩, ⟨?_⟩, ⟨?_⟩, ⟨?_⟩⟩
        · show _ = Value.int .u64 (rnd (encN (wds k) (wds b) i) (ks (wds k) i).2).1
          rw [← hq'.out]; rfl
        · show _ = Value.int .u64 (rnd (encN (wds k) (wds b) i) (ks (wds k) i).2).2
          rw [← hq'.out]; rfl
        · exact B0.out
        · exact Kd.C_below B1.out (pw_below_drewN (Below.refl _ _) _)
        · exact pw_below_drewN HB.out _
    · have h32 : i = 32 := by have := HI.out; omega
      subst h32
      have b0 : decide (((32 : Nat) : Int) < 32) = false := by decide
      have hqo : POK q := by rw [hq'.out]; exact encN_ok (wds_ok HKb.out) 32
      have Q0 := Aside0.mk hqo
      clear hqo
      go_wp2_with fail
      go_at_call 141
      refine (rblock_calls q.1 q.2 Q0.out.1 Q0.out.2 _).mono ?_
      rintro e5 w5 ⟨rfl, hb5⟩
      obtain ⟨K, hKK⟩ : ∃ K, K = blockK q.1 q.2 := ⟨_, rfl⟩
      rw [← hKK]
      have hK' := Aside0.mk hKK
      have b2 := blk_to B0.out hb5
      obtain ⟨d0, d1, d2, d3, d4, d5, d6, d7, d8, d9, d10, d11, d12, d13, d14, d15⟩ := cells16 b2
      obtain ⟨f0, f1, f2, f3, f4, f5, f6, f7, f8, f9, f10, f11, f12, f13, f14, f15⟩ := frozen16 b2
      have B10 := Aside0.mk b2; have B11 := Aside0.mk hb5
      clear b2 hb5 hKK
      go_wp2
      refine bodyPost_ret (results_cell_row rfl _ _ (w.heap.size + 1 + 1) 26 (kc K) (0, 0) _ rfl (putK_at B10.out K) Try.underlying26 rfl (by kernel_rfl)) rfl ?_
      refine ⟨by rw [hK'.out, hq'.out]; rfl, putK_below (HB.out.trans (B11.out.mono HB.out.size)) (by omega)⟩
end Go.Proofs.Ytafhimeoijmolaa.K
namespace Go.Proofs.Ytafhimeoijmolaa.K
open Go.RowKit Go.Proofs.YtafhimeoijmolaaW.PrintWords Go.Proofs.YtafhimeoijmolaaW.PrintLast Go.Proofs.YtafhimeoijmolaaW.PrintMore Go.Proofs.Ytafhimeoijmolaa.G
set_option linter.unusedVariables false
set_option linter.unusedSimpArgs false
theorem derK_ok (k : S26) (tag n : Int) : KOK (derK k tag n) := blockK_ok _ _
set_option maxHeartbeats 4000000 in
set_option maxRecDepth 100000 in
theorem rDerive_calls (k : S26) (tag n : Int) (hk : KOK k) (ht : 0 ≤ tag ∧ tag < 256) (hn : WOK n) (w : World) :
    Calls Try.prog 89 #[kv k, .int .u8 tag, .int .u64 n] w fun e w' => e = .returned (kv (derK k tag n)) ∧ Below w.heap.size w w' := by
  have hu26 := Try.underlying26
  have hB : KOK (blockOfK tag 0 n) := blockK_ok _ _
  have HP := Aside0.mk (And.intro hk (And.intro ht hn))
  have HBK := Aside0.mk hB
  clear hk ht hn hB
  go_enter Try.func89, Try.ntmps89
  go_wp2_with fail
  go_region_with (first
    | (go_at_call 136; with_reducible refine Calls.mono (rBlock_calls tag n HP.out.2.1 HP.out.2.2 _) ?_; rintro e1 w1 ⟨rfl, hb1⟩; have hk1 : w1.heap[w.heap.size]? = some (.cells (kc k) 26 (0, 0)) := blk_to (blk_drew (blk_alloc (newAt rfl) _)) hb1; have hr1 : w1.heap[w.heap.size + 1]? = some (.cells (kc z26) 26 (0, 0)) := blk_to (blk_drew (newAt (by simp))) hb1; have HB1 : Below w.heap.size w w1 := (((Below.refl _ w).alloc (Nat.le_refl _) _).alloc (by simp) _).drew.trans (hb1.mono (by simp; omega)); obtain ⟨c0, c1, c2, c3, c4, c5, c6, c7, c8, c9, c10, c11, c12, c13, c14, c15⟩ := cells16 hk1; have HR1 := Aside0.mk hr1; have HBA := Aside0.mk HB1; clear hb1 hk1 hr1 HB1)
    | (go_at_call 90; with_reducible refine Calls.mono (rEncrypt_calls k (blockOfK tag 0 n) HP.out.1 HBK.out _) ?_; rintro e2 w2 ⟨rfl, hb2⟩; have hr2 : w2.heap[w.heap.size + 1]? = some (.cells (kc z26) 26 (0, 0)) := blk_to HR1.out hb2; obtain ⟨d0, d1, d2, d3, d4, d5, d6, d7, d8, d9, d10, d11, d12, d13, d14, d15⟩ := cells16 hr2; obtain ⟨f0, f1, f2, f3, f4, f5, f6, f7, f8, f9, f10, f11, f12, f13, f14, f15⟩ := frozen16 hr2; have HR2 := Aside0.mk hr2; have HBB := Aside0.mk (HBA.out.trans (hb2.mono HBA.out.size)); clear hb2 hr2 HR1 HBA))
  all_goals (go_wp2; refine bodyPost_ret (results_cell_row rfl _ _ (w.heap.size + 1) 26 (kc (derK k tag n)) (0, 0) _ rfl (putK_at HR2.out _) Try.underlying26 rfl (by kernel_rfl)) rfl ?_; exact ⟨rfl, putK_below HBB.out (by simp)⟩)
end Go.Proofs.Ytafhimeoijmolaa.K
namespace Go.Proofs.Ytafhimeoijmolaa.K
open Go.RowKit Go.Proofs.YtafhimeoijmolaaW.PrintWords Go.Proofs.YtafhimeoijmolaaW.PrintLast Go.Proofs.YtafhimeoijmolaaW.PrintMore Go.Proofs.Ytafhimeoijmolaa.G
set_option linter.unusedVariables false
set_option linter.unusedSimpArgs false
end Go.Proofs.Ytafhimeoijmolaa.K
