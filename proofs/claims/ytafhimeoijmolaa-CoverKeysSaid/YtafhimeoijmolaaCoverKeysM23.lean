/- Texts of this claim, one behind the other, as far as they are used: O4, M18. -/
import Derived.OpenShut
import Derived.Test.YtafhimeoijmolaaCoverKeysM9
import Derived.Test.YtafhimeoijmolaaCoverKeysM13
import Derived.Test.YtafhimeoijmolaaCoverKeysM17
import Derived.Test.YtafhimeoijmolaaCoverKeysM21
import Derived.Test.YtafhimeoijmolaaCoverKeysM22
namespace Go.Proofs.Ytafhimeoijmolaa.O
open Go.ChangeShapes Go.WideShapes Go.ChangeAt Go.RowKit Go.Deep Go.Proofs.Ytafhimeoijmolaa.G Go.Proofs.Ytafhimeoijmolaa.K Go.Proofs.YtafhimeoijmolaaW.PrintWords
set_option linter.unusedVariables false
set_option linter.unusedSimpArgs false
section
variable {H : Type} {enc : TypeId × Value → H} {W : World} {base : Nat} {v : Value} {d : DataW H} {p : List MemPlace} {ts : List TypeId} {ds : List (DataW H)}
theorem wf_u8 {n : Int} (h : (Lit.int .u8 n).wf = true) : 0 ≤ n ∧ n < 256 := by
  simp [Lit.wf, IntKind.has, IntKind.min, IntKind.max, IntKind.signed, IntKind.bits] at h
  omega
theorem wf_i64 {n : Int} (h : (Lit.int .i64 n).wf = true) : I64 n := by
  simp [Lit.wf, IntKind.has, IntKind.min, IntKind.max, IntKind.signed, IntKind.bits] at h
  unfold I64
  omega
set_option maxRecDepth 100000 in
theorem elt26 {n : Nat} {cs : List Value} {x : DataW H × List MemPlace} {sp : Nat → Bool} (h : DataW.trod enc Try.prog W 0 sp true n 26 cs = some x) : ∃ k : S26, cs = (kc k).toList ∧ KOK k := by
  obtain ⟨xs, m, _, _, hl, hxl, hf⟩ := DataW.trod_array Try.underlying26 h
  have hl2 : cs.length = 16 := hl.trans (by kernel_rfl)
  have s5 : Try.prog.cellsOf 5 = 1 := by kernel_rfl
  rw [s5] at hf
  match cs, hl2 with
  | [c0, c1, c2, c3, c4, c5, c6, c7, c8, c9, c10, c11, c12, c13, c14, c15], _ =>
    have at_ : ∀ i, i < 16 → ∃ a : Int, ((([c0, c1, c2, c3, c4, c5, c6, c7, c8, c9, c10, c11, c12, c13, c14, c15] : List Value).drop (i * 1)).take 1) = [.int .u8 a] ∧ 0 ≤ a ∧ a < 256 := fun i hi => by
      obtain ⟨a, ha, _, hw⟩ := DataW.trod_int (k := .u8) Try.underlying5 ((hf i hi).trans (List.getElem?_eq_getElem (by rw [hxl]; exact hi)))
      exact ⟨a, ha, wf_u8 hw⟩
    obtain ⟨a0, e0, r0⟩ := at_ 0 (by decide)
    obtain ⟨a1, e1, r1⟩ := at_ 1 (by decide)
    obtain ⟨a2, e2, r2⟩ := at_ 2 (by decide)
    obtain ⟨a3, e3, r3⟩ := at_ 3 (by decide)
    obtain ⟨a4, e4, r4⟩ := at_ 4 (by decide)
    obtain ⟨a5, e5, r5⟩ := at_ 5 (by decide)
    obtain ⟨a6, e6, r6⟩ := at_ 6 (by decide)
    obtain ⟨a7, e7, r7⟩ := at_ 7 (by decide)
    obtain ⟨a8, e8, r8⟩ := at_ 8 (by decide)
    obtain ⟨a9, e9, r9⟩ := at_ 9 (by decide)
    obtain ⟨a10, e10, r10⟩ := at_ 10 (by decide)
    obtain ⟨a11, e11, r11⟩ := at_ 11 (by decide)
    obtain ⟨a12, e12, r12⟩ := at_ 12 (by decide)
    obtain ⟨a13, e13, r13⟩ := at_ 13 (by decide)
    obtain ⟨a14, e14, r14⟩ := at_ 14 (by decide)
    obtain ⟨a15, e15, r15⟩ := at_ 15 (by decide)
    simp only [Nat.mul_one, List.drop_succ_cons, List.drop_zero, List.take_succ_cons, List.take_zero, List.cons.injEq, and_true] at e0 e1 e2 e3 e4 e5 e6 e7 e8 e9 e10 e11 e12 e13 e14 e15
    subst e0 e1 e2 e3 e4 e5 e6 e7 e8 e9 e10 e11 e12 e13 e14 e15
    refine ⟨⟨a0, a1, a2, a3, a4, a5, a6, a7, a8, a9, a10, a11, a12, a13, a14, a15⟩, rfl, ?_⟩
    intro b hb
    simp only [K.bytesOf, List.mem_cons, List.not_mem_nil, or_false] at hb
    rcases hb with rfl | rfl | rfl | rfl | rfl | rfl | rfl | rfl | rfl | rfl | rfl | rfl | rfl | rfl | rfl | rfl <;> assumption
set_option maxRecDepth 100000 in
theorem elt83 {n : Nat} {cs : List Value} {x : DataW H × List MemPlace} {sp : Nat → Bool} (h : DataW.trod enc Try.prog W 0 sp true n 83 cs = some x) : ∃ y : S83, cs = (lc y.f0 y.f1 y.f2).toList ∧ KOK y.f2 ∧ I64 y.f1 := by
  obtain ⟨xs, m, _, _, hl, hxl, hf⟩ := DataW.trod_struct Try.underlying83 h
  have hl2 : cs.length = 18 := hl.trans (by kernel_rfl)
  match cs, hl2 with
  | c0 :: c1 :: cs, hl2 =>
    have s3 : Try.prog.cellsOf 3 = 1 := by kernel_rfl
    have s26 : Try.prog.cellsOf 26 = 16 := by kernel_rfl
    have e0 : DataW.trod enc Try.prog W 0 sp true m 3 (((c0 :: c1 :: cs).drop 0).take (Try.prog.cellsOf 3)) = xs[0]? := hf 0 _ rfl
    have e1 : DataW.trod enc Try.prog W 0 sp true m 3 (((c0 :: c1 :: cs).drop 1).take (Try.prog.cellsOf 3)) = xs[1]? := hf 1 _ rfl
    have e2 : DataW.trod enc Try.prog W 0 sp true m 26 (((c0 :: c1 :: cs).drop 2).take (Try.prog.cellsOf 26)) = xs[2]? := hf 2 _ rfl
    rw [s3] at e0 e1
    rw [s26] at e2
    obtain ⟨a0, ha0, _⟩ := DataW.trod_int (k := .i64) Try.underlying3 (e0.trans (List.getElem?_eq_getElem (by rw [hxl]; decide)))
    obtain ⟨a1, ha1, _, hw1⟩ := DataW.trod_int (k := .i64) Try.underlying3 (e1.trans (List.getElem?_eq_getElem (by rw [hxl]; decide)))
    obtain ⟨k, hk, hkk⟩ := elt26 (e2.trans (List.getElem?_eq_getElem (by rw [hxl]; decide)))
    simp only [List.drop_succ_cons, List.drop_zero, List.take_succ_cons, List.take_zero, List.cons.injEq, and_true] at ha0 ha1
    have hcs : cs.take 16 = (kc k).toList := hk
    rw [List.take_of_length_le (by simp at hl2; omega)] at hcs
    subst ha0 ha1 hcs
    exact ⟨⟨a0, a1, k⟩, rfl, hkk, wf_i64 hw1⟩
theorem open_rowsP {α : Type} (dk : Kd α) (Pr : α → Prop) (z : α) {t e : TypeId} (ht : Try.prog.underlying t = some (.slice e)) (hC : Try.prog.cellsOf e = dk.sz) (bytes : Nat) (hB : Try.prog.bytesOf e = bytes)
    (helt : ∀ {n : Nat} {cs : List Value} {x : DataW H × List MemPlace}, DataW.trod enc Try.prog W 0 (fun _ => true) true n e cs = some x → ∃ y : α, cs.length = dk.sz ∧ dk.K W y cs ∧ Pr y)
    (hsz : (DataW.weightsEach Try.prog ts ds).all (· ≤ reachBytes) = true) (hv : ∃ A n c, v = .slice A n c) (h : DataW.Trod enc Try.prog W 0 (fun _ => true) true t v d p) (j : Nat) (h1 : ts[j]? = some t) (h2 : ds[j]? = some d) :
    ∃ (A : Option Addr) (c : Nat) (l : List α), v = .slice A l.length c ∧ Kd.C dk W A l.length l ∧ l.length ≤ c ∧ l.length * bytes ≤ 140737488351232 ∧ ∀ y ∈ l, Pr y := by
  obtain ⟨A0, n0, c0, rfl⟩ := hv
  obtain ⟨fuel, hf⟩ := h
  rcases Deep.open_slice ht hf with ⟨h0, h9⟩ | ⟨a, len, cap, m, n, D, Pl, hcs, hb, hl, hm, hmm, hx, hi⟩
  · have h0' : [Value.slice A0 n0 c0] = [Value.slice none 0 0] := h0
    simp only [List.cons.injEq, and_true, Value.slice.injEq] at h0'
    obtain ⟨rfl, rfl, rfl⟩ := h0'
    exact ⟨none, 0, [], rfl, ⟨rfl, by simp, fun h => absurd h (by simp)⟩, by simp, by simp, fun _ h => by cases h⟩
  · have h0' : [Value.slice A0 n0 c0] = [Value.slice (some a) len cap] := hcs
    simp only [List.cons.injEq, and_true, Value.slice.injEq] at h0'
    obtain ⟨rfl, rfl, rfl⟩ := h0'
    simp only [if_true] at hmm
    subst hmm
    simp only [Prod.mk.injEq] at hx
    have hs := sized_slice hsz h1 (h2.trans (congrArg some hx.1)) ht
    simp only [List.length_map, List.length_range, hB] at hs
    have hr : reachBytes = 140737488351232 := by kernel_rfl
    have hle : n0 * bytes ≤ 140737488351232 := by
      have := Nat.mul_le_mul_right bytes (show n0 ≤ n0 + (m - n0) by omega)
      omega
    have hel : ∀ i, i < n0 → ∃ y : α, Pr y ∧ ∃ cs : List Value, cs.length = dk.sz ∧ dk.K W y cs ∧ ∀ q, q < dk.sz → W.cell? ((a.add (i * dk.sz)).add q) = cs[q]? := fun i hi' => by
      obtain ⟨cs', hc, ht'⟩ := hi i (by omega)
      rw [hC] at hc
      obtain ⟨_, _, hat⟩ := World.cells?_some hc
      obtain ⟨y, hy1, hy2, hy3⟩ := helt ht'
      exact ⟨y, hy3, cs', hy1, hy2, hat⟩
    obtain ⟨f, hfn⟩ : ∃ f : Nat → α, ∀ i, i < n0 → Pr (f i) ∧ ∃ cs : List Value, cs.length = dk.sz ∧ dk.K W (f i) cs ∧ ∀ q, q < dk.sz → W.cell? ((a.add (i * dk.sz)).add q) = cs[q]? := by
      exact ⟨fun i => if h : i < n0 then (hel i h).choose else z, fun i hi => by simp only [hi, dif_pos]; exact (hel i hi).choose_spec⟩
    refine ⟨some a, m, (List.range n0).map f, by simp, ⟨by simp, ?_, fun h => ⟨a, rfl, ?_⟩⟩, by simpa using hl, by simpa using hle, ?_⟩
    · have : maxLen = 9223372036854775807 := rfl
      simp; omega
    · intro q y hy
      have hq : q < n0 := by
        have := (List.getElem?_eq_some_iff.1 hy).1
        simpa using this
      obtain ⟨_, cs, h3, h4, h5⟩ := hfn q hq
      have e : y = f q := by simp [hq] at hy; exact hy.symm
      refine ⟨cs, h3, e ▸ h4, fun i u hu => ?_⟩
      have hi' : i < dk.sz := by have := (List.getElem?_eq_some_iff.1 hu).1; omega
      have h6 := h5 i hi'
      rw [hu, Go.Deep.add_add] at h6
      exact h6
    · intro y hy
      obtain ⟨q, hq, rfl⟩ := List.mem_map.1 hy
      exact (hfn q (List.mem_range.1 hq)).1
theorem sized_struct {t : TypeId} {fs : Array Field} {parts : List (DataW H)} (h : (DataW.weightsEach Try.prog ts ds).all (· ≤ reachBytes) = true) {j : Nat} (ht : ts[j]? = some t) (hd : ds[j]? = some (.agg parts)) (hu : Try.prog.underlying t = some (.struct fs)) :
    (DataW.weightsEach Try.prog (fs.toList.map (·.type)) parts).all (· ≤ reachBytes) = true := by
  rw [List.all_eq_true]
  intro n hn
  exact List.all_eq_true.1 h _ (DataW.weights_mem_each ht hd n (by simpa [DataW.weights, hu] using hn))
structure SecA where
  r : Int
  A : Option Addr
  cap : Nat
  ls : List S83
  p : Int
  q : Int
def SecA.val (s : SecA) : Value := .agg #[.int .i64 s.r, .slice s.A s.ls.length s.cap, .int .u64 s.p, .int .u64 s.q]
set_option maxRecDepth 100000 in
theorem arg76 (hsz : (DataW.weightsEach Try.prog ts ds).all (· ≤ reachBytes) = true) (hv : Value.okWide Try.prog W .any base 76 v) (h : DataW.Trod enc Try.prog W 0 (fun _ => true) true 76 v d p) (j : Nat) (h1 : ts[j]? = some 76) (h2 : ds[j]? = some d) :
    ∃ x : SecA, v = x.val ∧ (Kd.C k83 W x.A x.ls.length x.ls ∧ x.ls.length * 32 ≤ 140737488351232 ∧ ∀ l ∈ x.ls, KOK l.f2 ∧ I64 l.f1) := by
  obtain ⟨cs, rfl, hs, hc⟩ := open_row (ts := [3, 72, 23, 23]) (.inl ⟨_, Try.underlying76⟩) (by kernel_rfl) (by kernel_rfl) rfl hv
  obtain ⟨c0, c1, c2, c3, rfl⟩ : ∃ a b c d, cs = #[a, b, c, d] := by
    obtain ⟨l⟩ := cs
    match l, hs with
    | [a, b, c, d], _ => exact ⟨a, b, c, d, rfl⟩
  obtain ⟨a0, rfl⟩ := cell_int Try.underlying3 (hc 0 c0 3 rfl rfl)
  have hsl := cell_slice Try.underlying72 (hc 1 c1 72 rfl rfl)
  obtain ⟨a2, rfl⟩ := cell_int Try.underlying23 (hc 2 c2 23 rfl rfl)
  obtain ⟨a3, rfl⟩ := cell_int Try.underlying23 (hc 3 c3 23 rfl rfl)
  obtain ⟨fuel, hf⟩ := h
  obtain ⟨xs, m, _, hx, hl, hxl, hff⟩ := DataW.trod_struct Try.underlying76 hf
  simp only [Prod.mk.injEq] at hx
  have hz := sized_struct hsz h1 (h2.trans (congrArg some hx.1)) Try.underlying76
  have e1 : DataW.trod enc Try.prog W 0 (fun _ => true) true m 72 (((Value.agg #[.int .i64 a0, c1, .int .u64 a2, .int .u64 a3]).cells.toList.drop 1).take (Try.prog.cellsOf 72)) = xs[1]? := hff 1 _ rfl
  have s72 : Try.prog.cellsOf 72 = 1 := by kernel_rfl
  rw [s72] at e1
  have hx1 : 1 < xs.length := by rw [hxl]; decide
  have e2 := e1.trans (List.getElem?_eq_getElem hx1)
  obtain ⟨A, n, c, rfl⟩ := hsl
  obtain ⟨A', c', l, ev, hC, _, hlb, hp⟩ := open_rowsP k83 (fun y : S83 => KOK y.f2 ∧ I64 y.f1) z83 Try.underlying72 (by kernel_rfl) 32 (by kernel_rfl) (fun h => by obtain ⟨y, hy, hk⟩ := elt83 h; exact ⟨y, by rw [hy]; rfl, by rw [hy]; exact k83_mk _ y, hk⟩) hz ⟨A, n, c, rfl⟩ ⟨m, e2⟩ 1 rfl (by simp [hx1])
  simp only [Value.slice.injEq] at ev
  obtain ⟨rfl, rfl, rfl⟩ := ev
  exact ⟨⟨a0, A, c, l, a2, a3⟩, rfl, hC, hlb, hp⟩
structure HeadA where
  A : Option Addr
  cp : Nat
  its : List S111
  b : Int
  P : Option Addr
  pq : Nat
  ps : List S74
  x0 : S26
  chk : S26
def HeadA.val (s : HeadA) : Value := hv (.slice s.A s.its.length s.cp) s.b (.slice s.P s.ps.length s.pq) s.x0 s.chk
end
end Go.Proofs.Ytafhimeoijmolaa.O
namespace Go.Proofs.Ytafhimeoijmolaa.K
open Go.RowKit  Go.Proofs.YtafhimeoijmolaaW.PrintWords Go.Proofs.YtafhimeoijmolaaW.PrintLast Go.Proofs.YtafhimeoijmolaaW.PrintMore Go.Proofs.Ytafhimeoijmolaa.G
set_option linter.unusedVariables false
set_option linter.unusedSimpArgs false
theorem knows_loop (a0 a1 a2 a3 a4 a5 v t : Int) (p : Int → Bool) (l : List Int) (hl : l.length ≤ 4611686018427387904) (hp : ∀ u ∈ l, ∃ r, headendref03_Known.f 300 a0 a1 a2 a3 a4 a5 u v t = some r ∧ decide (r ≥ 0) = p u) : ∀ (n i k : Nat), i + n = l.length → n + 300 < k → headendref03_Knows.l0 k l (i : Int) a0 a1 a2 a3 a4 a5 v t = some ((l.drop i).any p, 0)
  | 0, i, k, hi, hk => by
    obtain ⟨k, rfl⟩ : ∃ m, k = m + 1 := ⟨k - 1, by omega⟩
    simp only [headendref03_Knows.l0]
    rw [if_neg (by omega), List.drop_eq_nil_of_le (by omega)]
    rfl
  | n + 1, i, k, hi, hk => by
    obtain ⟨k, rfl⟩ : ∃ m, k = m + 1 := ⟨k - 1, by omega⟩
    have hw1 : wrap64 ((i : Int) + 1) = ((i + 1 : Nat) : Int) := by unfold wrap64; omega
    have hm : l.getD i 0 ∈ l := by have : i < l.length := by omega
                                   simp [this]
    obtain ⟨r, h1, h2⟩ := hp _ hm
    simp only [headendref03_Knows.l0]
    rw [if_pos (by omega), if_pos (by omega), rdn, up (fun k => headendref03_Known.mono _ _ _ _ _ _ _ _ _ k) h1 (show 300 ≤ k by omega), Option.bind_some, hw1, drop_cons l i (by omega) 0, List.any_cons, ← h2]
    by_cases h3 : r ≥ 0
    · rw [if_pos h3, decide_eq_true h3]; rfl
    · rw [if_neg h3, decide_eq_false h3, Bool.false_or]
      exact knows_loop a0 a1 a2 a3 a4 a5 v t p l hl hp n (i + 1) k (by omega) (by omega)
theorem knows_both (a0 a1 a2 a3 a4 a5 v t : Int) (A : Option Addr) (c : Nat) (l : List Int) (hlc : l.length ≤ c) (hlb : l.length ≤ 4611686018427387904) : ∃ rb : Bool × Int,
    (∀ w, Kd.C (Kd.int .i64) w A l.length l → Calls Try.prog 57 #[.agg #[.int .u8 a0, .int .i64 a1, .int .i64 a2, .int .u64 a3, .int .u64 a4, .int .u64 a5], .slice A l.length c, .agg #[.int .i64 v, .int .i64 t]] w fun e' w' => e' = .returned (.tuple #[.bool rb.1, .int .i64 rb.2]) ∧ Below w.heap.size w w') ∧
    (∀ w, Kd.C (Kd.int .i64) w A l.length l → Calls Try.prog 58 #[.agg #[.int .u8 a0, .int .i64 a1, .int .i64 a2, .int .u64 a3, .int .u64 a4, .int .u64 a5], .slice A l.length c, .agg #[.int .i64 v, .int .i64 t]] w fun e' w' => e' = .returned (.tuple #[.bool rb.1, .int .i64 rb.2]) ∧ Below w.heap.size w w') := by
  by_cases hv : ValidI a0 a1 a2 a3 a4 a5
  · obtain ⟨a, d, rfl, rfl, ha, ha3, hd, rfl, rfl, rfl, rfl⟩ := hv.nat
    have he := enter_nil (k := 70) ha ha3 hd (by omega)
    have hl1 := list_n hd (a : Int) (strd d : Int) l hlb
    have hl2 := rList_n (k := l.length + 400) hd l hlb (by omega)
    have hs1 := subset_n v t ha ha3 hd (Nat.le_refl 4)
    have hs2 := rSubset_n v t 0 0 0 0 ha ha3 hd (show 31 ≤ l.length + 400 by omega)
    have hV := rValid_good ha ha3 hd
    cases hL : isListN d l with
    | false =>
      rw [hL] at hl1 hl2
      refine ⟨(false, 2), fun w hC => ?_, fun w hC => ?_⟩
      · exact Knows_calls a d 0 0 0 0 v t a d (strd d) 0 A c l false true (fun _ => false) (l.length + 1) 4 w hC hlc he (fun _ => hl1) (fun _ h => by cases h) (fun _ h => by cases h)
      · exact headendref03_Knows.calls (l.length + 400) a d 0 0 0 0 A c l v t false 2 w hC hlc (by unfold headendref03_Knows.f; rw [hV, Option.bind_some, if_pos rfl, hl2, Option.bind_some, if_neg (by simp)])
    | true =>
      rw [hL] at hl1 hl2
      cases hs : subI a d v t with
      | false =>
        rw [hs] at hs1 hs2
        refine ⟨(false, 31), fun w hC => ?_, fun w hC => ?_⟩
        · exact Knows_calls a d 0 0 0 0 v t a d (strd d) 0 A c l true false (fun _ => false) (l.length + 1) 4 w hC hlc he (fun _ => hl1) (fun _ _ => hs1) (fun _ _ h => by cases h)
        · exact headendref03_Knows.calls (l.length + 400) a d 0 0 0 0 A c l v t false 31 w hC hlc (by unfold headendref03_Knows.f; rw [hV, Option.bind_some, if_pos rfl, hl2, Option.bind_some, if_pos rfl, hs2, Option.bind_some, if_neg (by simp)])
      | true =>
        rw [hs] at hs1 hs2
        obtain ⟨v', t', rfl, rfl, hv1, hv2, hvl, _, htl⟩ := subI_nat ha hd hs
        have hmem := listF_mem (show listF ((2 ^ d : Nat) : Int) none l = true from hL)
        have key : ∀ u ∈ l, (∃ xs, labelsF (a : Int) (d : Int) (strd d : Int) u = some xs ∧ xs.length ≤ 1000 ∧ (∀ x ∈ xs, ∃ b, leadsF (a : Int) x.1 x.2 (v' : Int) (t' : Int) = some b) ∧ knowF (a : Int) (v' : Int) (t' : Int) xs = some (memN d v' t' u.toNat)) ∧ (∃ r, headendref03_Known.f 300 (a : Int) (d : Int) 0 0 0 0 u (v' : Int) (t' : Int) = some r ∧ decide (r ≥ 0) = memN d v' t' u.toNat) := by
          intro u hu
          obtain ⟨h0, h1⟩ := hmem u hu
          obtain ⟨n, rfl⟩ : ∃ n : Nat, u = (n : Int) := ⟨u.toNat, by omega⟩
          rw [Int.toNat_natCast]
          obtain ⟨ys, p, g1, g2, g3, g4, g5, g6, g7⟩ := lab_leads ha ha3 hd (show n < 2 ^ d by omega) hs
          have hp' : ∀ x ∈ ys.map (fun y => (y.f0, y.f1)), leadsF (a : Int) x.1 x.2 (v' : Int) (t' : Int) = some (p x) := fun x hx => by
            obtain ⟨y, hy, rfl⟩ := List.mem_map.1 hx
            exact g4 y hy
          refine ⟨⟨_, g1, by rw [List.length_map]; omega, fun x hx => ⟨_, hp' x hx⟩, by rw [knowF_any _ _ _ p _ hp', List.any_map]; exact congrArg some g6⟩, idxF (fun y : S47 => p (y.f0, y.f1)) 0 ys, ?_, by rw [idxF_any]; exact g6⟩
          unfold headendref03_Known.f
          rw [up (fun k => headendref03_LabelsOf.mono _ _ _ _ _ _ _ k) g2 (show 100 ≤ 300 by omega), Option.bind_some]
          exact known_loop a d 0 0 0 0 v' t' (fun y : S47 => p (y.f0, y.f1)) ys (by omega) g5 ys.length 0 300 (by omega) (by omega)
        refine ⟨(l.any (fun u => memN d v' t' u.toNat), 0), fun w hC => ?_, fun w hC => ?_⟩
        · exact Knows_calls a d 0 0 0 0 v' t' a d (strd d) 0 A c l true true (fun u => memN d v' t' u.toNat) (l.length + 1) 4 w hC hlc he (fun _ => hl1) (fun _ _ => hs1) (fun _ _ _ u hu => (key u hu).1)
        · refine headendref03_Knows.calls (l.length + 400) a d 0 0 0 0 A c l v' t' _ 0 w hC hlc ?_
          unfold headendref03_Knows.f
          rw [hV, Option.bind_some, if_pos rfl, hl2, Option.bind_some, if_pos rfl, hs2, Option.bind_some, if_pos rfl]
          exact knows_loop a d 0 0 0 0 v' t' (fun u => memN d v' t' u.toNat) l hlb (fun u hu => (key u hu).2) l.length 0 _ (by omega) (by omega)
  · refine ⟨(false, 30), fun w hC => ?_, fun w hC => ?_⟩
    · exact Knows_calls a0 a1 a2 a3 a4 a5 v t 0 0 0 30 A c l false true (fun _ => false) (l.length + 1) 4 w hC hlc (enter_bad [] hv (by omega)) (fun h => by cases h) (fun h => by cases h) (fun h => by cases h)
    · exact headendref03_Knows.calls 1 a0 a1 a2 a3 a4 a5 A c l v t false 30 w hC hlc (by unfold headendref03_Knows.f; rw [rValid_bad hv, Option.bind_some, if_neg (by simp)])
end Go.Proofs.Ytafhimeoijmolaa.K
namespace Go.Proofs.Ytafhimeoijmolaa.O
open Go.ChangeShapes Go.WideShapes Go.ChangeAt Go.RowKit Go.Deep Go.Proofs.Ytafhimeoijmolaa.G Go.Proofs.Ytafhimeoijmolaa.K Go.Proofs.YtafhimeoijmolaaW.PrintWords
section
variable {H : Type} {enc : TypeId × Value → H} {W : World} {base : Nat} {v : Value} {d : DataW H} {p : List MemPlace} {ts : List TypeId} {ds : List (DataW H)}
set_option maxRecDepth 100000 in
theorem arg61 (hsz : (DataW.weightsEach Try.prog ts ds).all (· ≤ reachBytes) = true) (hv : Value.okWide Try.prog W .any base 61 v) (h : DataW.Trod enc Try.prog W 0 (fun _ => true) true 61 v d p) (j : Nat) (h1 : ts[j]? = some 61) (h2 : ds[j]? = some d) :
    ∃ x : Option Addr × Nat × List Int, v = .slice x.1 x.2.2.length x.2.1 ∧ (Kd.C (Kd.int .i64) W x.1 x.2.2.length x.2.2 ∧ x.2.2.length ≤ x.2.1 ∧ x.2.2.length * 8 ≤ 140737488351232 ∧ ∀ u ∈ x.2.2, I64 u) := by
  obtain ⟨A, c, l, e, h3, h4, h5, h6⟩ := open_rowsP (Kd.int .i64) I64 0 Try.underlying61 (by kernel_rfl) 8 (by kernel_rfl) (fun h => by
    obtain ⟨a, ha, _, hw⟩ := DataW.trod_int (k := .i64) Try.underlying3 h
    exact ⟨a, by rw [ha]; rfl, by rw [ha]; rfl, wf_i64 hw⟩) hsz (slice_of Try.underlying61 hv) h j h1 h2
  exact ⟨(A, c, l), e, h3, h4, h5, h6⟩
end
theorem coverKeys_walk (W : World) (root : S26) (hr : KOK root) (s : Sch) (_ : True) (c : SecA) (hc : Kd.C k83 W c.A c.ls.length c.ls ∧ c.ls.length * 32 ≤ 140737488351232 ∧ ∀ l ∈ c.ls, KOK l.f2 ∧ I64 l.f1) (x : SubV) (_ : True) (u : Int) (_ : True)
    (l : Option Addr × Nat × List Int) (hl : Kd.C (Kd.int .i64) W l.1 l.2.2.length l.2.2 ∧ l.2.2.length ≤ l.2.1 ∧ l.2.2.length * 8 ≤ 140737488351232 ∧ ∀ u ∈ l.2.2, I64 u) :
    Calls Try.prog 11 #[kv root, s.val, c.val, x.val, .int .i64 u, .slice l.1 l.2.2.length l.2.1] W fun e w' => e = .returned (.bool true) ∧ Below W.heap.size W w' := by
  obtain ⟨rk, k1, k2⟩ := subKey_both root hr s.k s.d s.g s.p s.q s.r x.n x.m
  obtain ⟨rf, f1, f2⟩ := find_both s.k s.d s.g s.p s.q s.r c.r c.p c.q x.n x.m c.ls hc.2.2
  obtain ⟨rw_, w1, w2⟩ := work_both s.k s.d s.g s.p s.q s.r u x.n x.m
  obtain ⟨rb, n1, n2⟩ := knows_both s.k s.d s.g s.p s.q s.r x.n x.m l.1 l.2.1 l.2.2 hl.2.1 (by have := hl.2.2.1; omega)
  exact K.lawKeys_calls root s.k s.d s.g s.p s.q s.r c.r c.p c.q x.n x.m u c.A l.1 c.cap l.2.1 c.ls l.2.2 W hc.1 hl.1 hc.2.1 rk rf rw_ rb k1 k2 f1 f2 w1 w2 n1 n2
end Go.Proofs.Ytafhimeoijmolaa.O
