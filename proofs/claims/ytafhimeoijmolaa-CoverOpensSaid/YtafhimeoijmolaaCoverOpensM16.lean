/- Texts of this claim, one behind the other, as far as they are used: O4, M15. -/
import Derived.OpenShut
import Derived.Test.YtafhimeoijmolaaCoverOpensM7
import Derived.Test.YtafhimeoijmolaaCoverOpensM10
import Derived.Test.YtafhimeoijmolaaCoverOpensM11
import Derived.Test.YtafhimeoijmolaaCoverOpensM14
import Derived.Test.YtafhimeoijmolaaCoverOpensM15
namespace Go.Proofs.Ytafhimeoijmolaa.O
open Go.ChangeShapes Go.WideShapes Go.ChangeAt Go.RowKit Go.Deep Go.Proofs.Ytafhimeoijmolaa.G Go.Proofs.Ytafhimeoijmolaa.K Go.Proofs.YtafhimeoijmolaaW.PrintWords
set_option linter.unusedVariables false
set_option linter.unusedSimpArgs false
section
variable {H : Type} {enc : TypeId × Value → H} {W : World} {base : Nat} {v : Value} {d : DataW H} {p : List MemPlace} {ts : List TypeId} {ds : List (DataW H)}
theorem wf_u8 {n : Int} (h : (Lit.int .u8 n).wf = true) : 0 ≤ n ∧ n < 256 := by
  simp [Lit.wf, IntKind.has, IntKind.min, IntKind.max, IntKind.signed, IntKind.bits] at h
  omega
theorem wf_i64 {n : Int} (h : (Lit.int .i64 n).wf = true) : I64 n := by
  simp [Lit.wf, IntKind.has, IntKind.min, IntKind.max, IntKind.signed, IntKind.bits] at h
  unfold I64
  omega
theorem wf_u64 {n : Int} (h : (Lit.int .u64 n).wf = true) : WOK n := by
  simp [Lit.wf, IntKind.has, IntKind.min, IntKind.max, IntKind.signed, IntKind.bits] at h
  unfold WOK
  omega
set_option maxRecDepth 100000 in
theorem elt47w {n : Nat} {cs : List Value} {x : DataW H × List MemPlace} {sp : Nat → Bool} (h : DataW.trod enc Try.prog W 0 sp true n 47 cs = some x) : ∃ y : S47, cs = [.int .i64 y.f0, .int .i64 y.f1] ∧ I64 y.f0 ∧ I64 y.f1 := by
  obtain ⟨xs, m, _, _, hl, hxl, hf⟩ := DataW.trod_struct Try.underlying47 h
  have hl2 : cs.length = 2 := hl.trans (by kernel_rfl)
  match cs, hl2 with
  | [c0, c1], _ =>
    have e0 : DataW.trod enc Try.prog W 0 sp true m 3 ((([c0, c1] : List Value).drop 0).take (Try.prog.cellsOf 3)) = xs[0]? := hf 0 _ rfl
    have e1 : DataW.trod enc Try.prog W 0 sp true m 3 ((([c0, c1] : List Value).drop 1).take (Try.prog.cellsOf 3)) = xs[1]? := hf 1 _ rfl
    have s3 : Try.prog.cellsOf 3 = 1 := by kernel_rfl
    rw [s3] at e0 e1
    obtain ⟨a0, ha0, _, hw0⟩ := DataW.trod_int (k := .i64) Try.underlying3 (e0.trans (List.getElem?_eq_getElem (by rw [hxl]; decide)))
    obtain ⟨a1, ha1, _, hw1⟩ := DataW.trod_int (k := .i64) Try.underlying3 (e1.trans (List.getElem?_eq_getElem (by rw [hxl]; decide)))
    have h0 : [c0] = [Value.int .i64 a0] := ha0
    have h1 : [c1] = [Value.int .i64 a1] := ha1
    simp only [List.cons.injEq, and_true] at h0 h1
    exact ⟨⟨a0, a1⟩, by rw [h0, h1], wf_i64 hw0, wf_i64 hw1⟩
set_option maxRecDepth 100000 in
theorem elt26 {n : Nat} {cs : List Value} {x : DataW H × List MemPlace} {sp : Nat → Bool} (h : DataW.trod enc Try.prog W 0 sp true n 26 cs = some x) : ∃ k : S26, cs = (kc k).toList ∧ KOK k := by
  obtain ⟨xs, m, _, _, hl, hxl, hf⟩ := DataW.trod_array Try.underlying26 h
  have hl2 : cs.length = 16 := hl.trans (by kernel_rfl)
  have s5 : Try.prog.cellsOf 5 = 1 := by kernel_rfl
  rw [s5] at hf
  match cs, hl2 with
  | [c0, c1, c2, c3, c4, c5, c6, c7, c8, c9, c10, c11, c12, c13, c14, c15], _ =>
    have at_ : ∀ i, i < 16 → ∃ a : Int, ((([c0, c1, c2, c3, c4, c5, c6, c7, c8, c9, c10, c11, c12, c13, c14, c15] : List Value).drop (i * 1)).take 1) = [.int .u8 a] ∧ 0 ≤ a ∧ a < 256 := fun i hi => by
      obtain ⟨a, ha, _, hw⟩ := DataW.trod_int (k := .u8) Try.underlying5 ((hf i hi).trans (List.getElem?_eq_getElem (by rw [hxl]; exact hi)))
      exact ⟨a, ha, wf_u8 hw⟩
    obtain ⟨a0, e0, r0⟩ := at_ 0 (by decide)
    obtain ⟨a1, e1, r1⟩ := at_ 1 (by decide)
    obtain ⟨a2, e2, r2⟩ := at_ 2 (by decide)
    obtain ⟨a3, e3, r3⟩ := at_ 3 (by decide)
    obtain ⟨a4, e4, r4⟩ := at_ 4 (by decide)
    obtain ⟨a5, e5, r5⟩ := at_ 5 (by decide)
    obtain ⟨a6, e6, r6⟩ := at_ 6 (by decide)
    obtain ⟨a7, e7, r7⟩ := at_ 7 (by decide)
    obtain ⟨a8, e8, r8⟩ := at_ 8 (by decide)
    obtain ⟨a9, e9, r9⟩ := at_ 9 (by decide)
    obtain ⟨a10, e10, r10⟩ := at_ 10 (by decide)
    obtain ⟨a11, e11, r11⟩ := at_ 11 (by decide)
    obtain ⟨a12, e12, r12⟩ := at_ 12 (by decide)
    obtain ⟨a13, e13, r13⟩ := at_ 13 (by decide)
    obtain ⟨a14, e14, r14⟩ := at_ 14 (by decide)
    obtain ⟨a15, e15, r15⟩ := at_ 15 (by decide)
    simp only [Nat.mul_one, List.drop_succ_cons, List.drop_zero, List.take_succ_cons, List.take_zero, List.cons.injEq, and_true] at e0 e1 e2 e3 e4 e5 e6 e7 e8 e9 e10 e11 e12 e13 e14 e15
    subst e0 e1 e2 e3 e4 e5 e6 e7 e8 e9 e10 e11 e12 e13 e14 e15
    refine ⟨⟨a0, a1, a2, a3, a4, a5, a6, a7, a8, a9, a10, a11, a12, a13, a14, a15⟩, rfl, ?_⟩
    intro b hb
    simp only [K.bytesOf, List.mem_cons, List.not_mem_nil, or_false] at hb
    rcases hb with rfl | rfl | rfl | rfl | rfl | rfl | rfl | rfl | rfl | rfl | rfl | rfl | rfl | rfl | rfl | rfl <;> assumption
set_option maxRecDepth 100000 in
theorem elt83 {n : Nat} {cs : List Value} {x : DataW H × List MemPlace} {sp : Nat → Bool} (h : DataW.trod enc Try.prog W 0 sp true n 83 cs = some x) : ∃ y : S83, cs = (lc y.f0 y.f1 y.f2).toList ∧ KOK y.f2 ∧ I64 y.f1 := by
  obtain ⟨xs, m, _, _, hl, hxl, hf⟩ := DataW.trod_struct Try.underlying83 h
  have hl2 : cs.length = 18 := hl.trans (by kernel_rfl)
  match cs, hl2 with
  | c0 :: c1 :: cs, hl2 =>
    have s3 : Try.prog.cellsOf 3 = 1 := by kernel_rfl
    have s26 : Try.prog.cellsOf 26 = 16 := by kernel_rfl
    have e0 : DataW.trod enc Try.prog W 0 sp true m 3 (((c0 :: c1 :: cs).drop 0).take (Try.prog.cellsOf 3)) = xs[0]? := hf 0 _ rfl
    have e1 : DataW.trod enc Try.prog W 0 sp true m 3 (((c0 :: c1 :: cs).drop 1).take (Try.prog.cellsOf 3)) = xs[1]? := hf 1 _ rfl
    have e2 : DataW.trod enc Try.prog W 0 sp true m 26 (((c0 :: c1 :: cs).drop 2).take (Try.prog.cellsOf 26)) = xs[2]? := hf 2 _ rfl
    rw [s3] at e0 e1
    rw [s26] at e2
    obtain ⟨a0, ha0, _⟩ := DataW.trod_int (k := .i64) Try.underlying3 (e0.trans (List.getElem?_eq_getElem (by rw [hxl]; decide)))
    obtain ⟨a1, ha1, _, hw1⟩ := DataW.trod_int (k := .i64) Try.underlying3 (e1.trans (List.getElem?_eq_getElem (by rw [hxl]; decide)))
    obtain ⟨k, hk, hkk⟩ := elt26 (e2.trans (List.getElem?_eq_getElem (by rw [hxl]; decide)))
    simp only [List.drop_succ_cons, List.drop_zero, List.take_succ_cons, List.take_zero, List.cons.injEq, and_true] at ha0 ha1
    have hcs : cs.take 16 = (kc k).toList := hk
    rw [List.take_of_length_le (by simp at hl2; omega)] at hcs
    subst ha0 ha1 hcs
    exact ⟨⟨a0, a1, k⟩, rfl, hkk, wf_i64 hw1⟩
set_option maxRecDepth 100000 in
theorem elt111 {n : Nat} {cs : List Value} {x : DataW H × List MemPlace} {sp : Nat → Bool} (h : DataW.trod enc Try.prog W 0 sp true n 111 cs = some x) : ∃ y : S111, cs = (lc y.f0.f0 y.f0.f1 y.f1).toList ∧ KOK y.f1 ∧ I64 y.f0.f0 ∧ I64 y.f0.f1 := by
  obtain ⟨xs, m, _, _, hl, hxl, hf⟩ := DataW.trod_struct Try.underlying111 h
  have hl2 : cs.length = 18 := hl.trans (by kernel_rfl)
  match cs, hl2 with
  | c0 :: c1 :: cs, hl2 =>
    have s47 : Try.prog.cellsOf 47 = 2 := by kernel_rfl
    have s26 : Try.prog.cellsOf 26 = 16 := by kernel_rfl
    have e0 : DataW.trod enc Try.prog W 0 sp true m 47 (((c0 :: c1 :: cs).drop 0).take (Try.prog.cellsOf 47)) = xs[0]? := hf 0 _ rfl
    have e2 : DataW.trod enc Try.prog W 0 sp true m 26 (((c0 :: c1 :: cs).drop 2).take (Try.prog.cellsOf 26)) = xs[1]? := hf 1 _ rfl
    rw [s47] at e0
    rw [s26] at e2
    obtain ⟨y, hy, hw0, hw1⟩ := elt47w (e0.trans (List.getElem?_eq_getElem (by rw [hxl]; decide)))
    obtain ⟨k, hk, hkk⟩ := elt26 (e2.trans (List.getElem?_eq_getElem (by rw [hxl]; decide)))
    simp only [List.drop_zero, List.take_succ_cons, List.take_zero, List.cons.injEq, and_true] at hy
    have hcs : cs.take 16 = (kc k).toList := hk
    rw [List.take_of_length_le (by simp at hl2; omega)] at hcs
    obtain ⟨hy0, hy1⟩ := hy
    subst hy0 hy1 hcs
    exact ⟨⟨y, k⟩, rfl, hkk, hw0, hw1⟩
set_option maxRecDepth 100000 in
theorem elt74 {n : Nat} {cs : List Value} {x : DataW H × List MemPlace} {sp : Nat → Bool} (h : DataW.trod enc Try.prog W 0 sp true n 74 cs = some x) : ∃ y : S74, cs = [.int .u64 y.f0, .int .u64 y.f1] ∧ WOK y.f0 ∧ WOK y.f1 := by
  obtain ⟨xs, m, _, _, hl, hxl, hf⟩ := DataW.trod_struct Try.underlying74 h
  have hl2 : cs.length = 2 := hl.trans (by kernel_rfl)
  match cs, hl2 with
  | [c0, c1], _ =>
    have e0 : DataW.trod enc Try.prog W 0 sp true m 23 ((([c0, c1] : List Value).drop 0).take (Try.prog.cellsOf 23)) = xs[0]? := hf 0 _ rfl
    have e1 : DataW.trod enc Try.prog W 0 sp true m 23 ((([c0, c1] : List Value).drop 1).take (Try.prog.cellsOf 23)) = xs[1]? := hf 1 _ rfl
    have s23 : Try.prog.cellsOf 23 = 1 := by kernel_rfl
    rw [s23] at e0 e1
    obtain ⟨a0, ha0, _, hw0⟩ := DataW.trod_int (k := .u64) Try.underlying23 (e0.trans (List.getElem?_eq_getElem (by rw [hxl]; decide)))
    obtain ⟨a1, ha1, _, hw1⟩ := DataW.trod_int (k := .u64) Try.underlying23 (e1.trans (List.getElem?_eq_getElem (by rw [hxl]; decide)))
    have h0 : [c0] = [Value.int .u64 a0] := ha0
    have h1 : [c1] = [Value.int .u64 a1] := ha1
    simp only [List.cons.injEq, and_true] at h0 h1
    exact ⟨⟨a0, a1⟩, by rw [h0, h1], wf_u64 hw0, wf_u64 hw1⟩
theorem open_rowsP {α : Type} (dk : Kd α) (Pr : α → Prop) (z : α) {t e : TypeId} (ht : Try.prog.underlying t = some (.slice e)) (hC : Try.prog.cellsOf e = dk.sz) (bytes : Nat) (hB : Try.prog.bytesOf e = bytes)
    (helt : ∀ {n : Nat} {cs : List Value} {x : DataW H × List MemPlace}, DataW.trod enc Try.prog W 0 (fun _ => true) true n e cs = some x → ∃ y : α, cs.length = dk.sz ∧ dk.K W y cs ∧ Pr y)
    (hsz : (DataW.weightsEach Try.prog ts ds).all (· ≤ reachBytes) = true) (hv : ∃ A n c, v = .slice A n c) (h : DataW.Trod enc Try.prog W 0 (fun _ => true) true t v d p) (j : Nat) (h1 : ts[j]? = some t) (h2 : ds[j]? = some d) :
    ∃ (A : Option Addr) (c : Nat) (l : List α), v = .slice A l.length c ∧ Kd.C dk W A l.length l ∧ l.length ≤ c ∧ l.length * bytes ≤ 140737488351232 ∧ ∀ y ∈ l, Pr y := by
  obtain ⟨A0, n0, c0, rfl⟩ := hv
  obtain ⟨fuel, hf⟩ := h
  rcases Deep.open_slice ht hf with ⟨h0, h9⟩ | ⟨a, len, cap, m, n, D, Pl, hcs, hb, hl, hm, hmm, hx, hi⟩
  · have h0' : [Value.slice A0 n0 c0] = [Value.slice none 0 0] := h0
    simp only [List.cons.injEq, and_true, Value.slice.injEq] at h0'
    obtain ⟨rfl, rfl, rfl⟩ := h0'
    exact ⟨none, 0, [], rfl, ⟨rfl, by simp, fun h => absurd h (by simp)⟩, by simp, by simp, fun _ h => by cases h⟩
  · have h0' : [Value.slice A0 n0 c0] = [Value.slice (some a) len cap] := hcs
    simp only [List.cons.injEq, and_true, Value.slice.injEq] at h0'
    obtain ⟨rfl, rfl, rfl⟩ := h0'
    simp only [if_true] at hmm
    subst hmm
    simp only [Prod.mk.injEq] at hx
    have hs := sized_slice hsz h1 (h2.trans (congrArg some hx.1)) ht
    simp only [List.length_map, List.length_range, hB] at hs
    have hr : reachBytes = 140737488351232 := by kernel_rfl
    have hle : n0 * bytes ≤ 140737488351232 := by
      have := Nat.mul_le_mul_right bytes (show n0 ≤ n0 + (m - n0) by omega)
      omega
    have hel : ∀ i, i < n0 → ∃ y : α, Pr y ∧ ∃ cs : List Value, cs.length = dk.sz ∧ dk.K W y cs ∧ ∀ q, q < dk.sz → W.cell? ((a.add (i * dk.sz)).add q) = cs[q]? := fun i hi' => by
      obtain ⟨cs', hc, ht'⟩ := hi i (by omega)
      rw [hC] at hc
      obtain ⟨_, _, hat⟩ := World.cells?_some hc
      obtain ⟨y, hy1, hy2, hy3⟩ := helt ht'
      exact ⟨y, hy3, cs', hy1, hy2, hat⟩
    obtain ⟨f, hfn⟩ : ∃ f : Nat → α, ∀ i, i < n0 → Pr (f i) ∧ ∃ cs : List Value, cs.length = dk.sz ∧ dk.K W (f i) cs ∧ ∀ q, q < dk.sz → W.cell? ((a.add (i * dk.sz)).add q) = cs[q]? := by
      exact ⟨fun i => if h : i < n0 then (hel i h).choose else z, fun i hi => by simp only [hi, dif_pos]; exact (hel i hi).choose_spec⟩
    refine ⟨some a, m, (List.range n0).map f, by simp, ⟨by simp, ?_, fun h => ⟨a, rfl, ?_⟩⟩, by simpa using hl, by simpa using hle, ?_⟩
    · have : maxLen = 9223372036854775807 := rfl
      simp; omega
    · intro q y hy
      have hq : q < n0 := by
        have := (List.getElem?_eq_some_iff.1 hy).1
        simpa using this
      obtain ⟨_, cs, h3, h4, h5⟩ := hfn q hq
      have e : y = f q := by simp [hq] at hy; exact hy.symm
      refine ⟨cs, h3, e ▸ h4, fun i u hu => ?_⟩
      have hi' : i < dk.sz := by have := (List.getElem?_eq_some_iff.1 hu).1; omega
      have h6 := h5 i hi'
      rw [hu, Go.Deep.add_add] at h6
      exact h6
    · intro y hy
      obtain ⟨q, hq, rfl⟩ := List.mem_map.1 hy
      exact (hfn q (List.mem_range.1 hq)).1
theorem sized_struct {t : TypeId} {fs : Array Field} {parts : List (DataW H)} (h : (DataW.weightsEach Try.prog ts ds).all (· ≤ reachBytes) = true) {j : Nat} (ht : ts[j]? = some t) (hd : ds[j]? = some (.agg parts)) (hu : Try.prog.underlying t = some (.struct fs)) :
    (DataW.weightsEach Try.prog (fs.toList.map (·.type)) parts).all (· ≤ reachBytes) = true := by
  rw [List.all_eq_true]
  intro n hn
  exact List.all_eq_true.1 h _ (DataW.weights_mem_each ht hd n (by simpa [DataW.weights, hu] using hn))
structure SecA where
  r : Int
  A : Option Addr
  cap : Nat
  ls : List S83
  p : Int
  q : Int
def SecA.val (s : SecA) : Value := .agg #[.int .i64 s.r, .slice s.A s.ls.length s.cap, .int .u64 s.p, .int .u64 s.q]
set_option maxRecDepth 100000 in
theorem arg76 (hsz : (DataW.weightsEach Try.prog ts ds).all (· ≤ reachBytes) = true) (hv : Value.okWide Try.prog W .any base 76 v) (h : DataW.Trod enc Try.prog W 0 (fun _ => true) true 76 v d p) (j : Nat) (h1 : ts[j]? = some 76) (h2 : ds[j]? = some d) :
    ∃ x : SecA, v = x.val ∧ (Kd.C k83 W x.A x.ls.length x.ls ∧ x.ls.length * 32 ≤ 140737488351232 ∧ ∀ l ∈ x.ls, KOK l.f2 ∧ I64 l.f1) := by
  obtain ⟨cs, rfl, hs, hc⟩ := open_row (ts := [3, 72, 23, 23]) (.inl ⟨_, Try.underlying76⟩) (by kernel_rfl) (by kernel_rfl) rfl hv
  obtain ⟨c0, c1, c2, c3, rfl⟩ : ∃ a b c d, cs = #[a, b, c, d] := by
    obtain ⟨l⟩ := cs
    match l, hs with
    | [a, b, c, d], _ => exact ⟨a, b, c, d, rfl⟩
  obtain ⟨a0, rfl⟩ := cell_int Try.underlying3 (hc 0 c0 3 rfl rfl)
  have hsl := cell_slice Try.underlying72 (hc 1 c1 72 rfl rfl)
  obtain ⟨a2, rfl⟩ := cell_int Try.underlying23 (hc 2 c2 23 rfl rfl)
  obtain ⟨a3, rfl⟩ := cell_int Try.underlying23 (hc 3 c3 23 rfl rfl)
  obtain ⟨fuel, hf⟩ := h
  obtain ⟨xs, m, _, hx, hl, hxl, hff⟩ := DataW.trod_struct Try.underlying76 hf
  simp only [Prod.mk.injEq] at hx
  have hz := sized_struct hsz h1 (h2.trans (congrArg some hx.1)) Try.underlying76
  have e1 : DataW.trod enc Try.prog W 0 (fun _ => true) true m 72 (((Value.agg #[.int .i64 a0, c1, .int .u64 a2, .int .u64 a3]).cells.toList.drop 1).take (Try.prog.cellsOf 72)) = xs[1]? := hff 1 _ rfl
  have s72 : Try.prog.cellsOf 72 = 1 := by kernel_rfl
  rw [s72] at e1
  have hx1 : 1 < xs.length := by rw [hxl]; decide
  have e2 := e1.trans (List.getElem?_eq_getElem hx1)
  obtain ⟨A, n, c, rfl⟩ := hsl
  obtain ⟨A', c', l, ev, hC, _, hlb, hp⟩ := open_rowsP k83 (fun y : S83 => KOK y.f2 ∧ I64 y.f1) z83 Try.underlying72 (by kernel_rfl) 32 (by kernel_rfl) (fun h => by obtain ⟨y, hy, hk⟩ := elt83 h; exact ⟨y, by rw [hy]; rfl, by rw [hy]; exact k83_mk _ y, hk⟩) hz ⟨A, n, c, rfl⟩ ⟨m, e2⟩ 1 rfl (by simp [hx1])
  simp only [Value.slice.injEq] at ev
  obtain ⟨rfl, rfl, rfl⟩ := ev
  exact ⟨⟨a0, A, c, l, a2, a3⟩, rfl, hC, hlb, hp⟩
structure HeadA where
  A : Option Addr
  cp : Nat
  its : List S111
  b : Int
  P : Option Addr
  pq : Nat
  ps : List S74
  x0 : S26
  chk : S26
def HeadA.val (s : HeadA) : Value := hv (.slice s.A s.its.length s.cp) s.b (.slice s.P s.ps.length s.pq) s.x0 s.chk
theorem arr35 {α : Type} {cs : Array α} (h : cs.size = 35) : ∃ (a b c : α) (r : List α), cs.toList = a :: b :: c :: r ∧ r.length = 32 := by
  obtain ⟨l⟩ := cs
  match l, h with
  | a :: b :: c :: r, h => exact ⟨a, b, c, r, rfl, by simpa using h⟩
set_option maxRecDepth 100000 in
theorem key_of_cells : ∀ (r : List Value), r.length = 16 → (∀ v ∈ r, ∃ n, v = .int .u8 n ∧ 0 ≤ n ∧ n < 256) → ∃ k : S26, r = (kc k).toList ∧ KOK k
  | [c0, c1, c2, c3, c4, c5, c6, c7, c8, c9, c10, c11, c12, c13, c14, c15], _, h => by
    obtain ⟨a0, rfl, r0⟩ := h c0 (by simp)
    obtain ⟨a1, rfl, r1⟩ := h c1 (by simp)
    obtain ⟨a2, rfl, r2⟩ := h c2 (by simp)
    obtain ⟨a3, rfl, r3⟩ := h c3 (by simp)
    obtain ⟨a4, rfl, r4⟩ := h c4 (by simp)
    obtain ⟨a5, rfl, r5⟩ := h c5 (by simp)
    obtain ⟨a6, rfl, r6⟩ := h c6 (by simp)
    obtain ⟨a7, rfl, r7⟩ := h c7 (by simp)
    obtain ⟨a8, rfl, r8⟩ := h c8 (by simp)
    obtain ⟨a9, rfl, r9⟩ := h c9 (by simp)
    obtain ⟨a10, rfl, r10⟩ := h c10 (by simp)
    obtain ⟨a11, rfl, r11⟩ := h c11 (by simp)
    obtain ⟨a12, rfl, r12⟩ := h c12 (by simp)
    obtain ⟨a13, rfl, r13⟩ := h c13 (by simp)
    obtain ⟨a14, rfl, r14⟩ := h c14 (by simp)
    obtain ⟨a15, rfl, r15⟩ := h c15 (by simp)
    refine ⟨⟨a0, a1, a2, a3, a4, a5, a6, a7, a8, a9, a10, a11, a12, a13, a14, a15⟩, rfl, ?_⟩
    intro b hb
    simp only [K.bytesOf, List.mem_cons, List.not_mem_nil, or_false] at hb
    rcases hb with rfl | rfl | rfl | rfl | rfl | rfl | rfl | rfl | rfl | rfl | rfl | rfl | rfl | rfl | rfl | rfl <;> assumption
set_option maxRecDepth 100000 in
theorem arg28 (hsz : (DataW.weightsEach Try.prog ts ds).all (· ≤ reachBytes) = true) (hv : Value.okWide Try.prog W .any base 28 v) (h : DataW.Trod enc Try.prog W 0 (fun _ => true) true 28 v d p) (j : Nat) (h1 : ts[j]? = some 28) (h2 : ds[j]? = some d) :
    ∃ x : HeadA, v = x.val ∧ (Kd.C k111 W x.A x.its.length x.its ∧ Kd.C k74 W x.P x.ps.length x.ps ∧ x.its.length * 32 ≤ 140737488351232 ∧ x.ps.length * 16 ≤ 140737488351232 ∧ (∀ y ∈ x.its, KOK y.f1 ∧ I64 y.f0.f0 ∧ I64 y.f0.f1) ∧ (∀ y ∈ x.ps, WOK y.f0 ∧ WOK y.f1) ∧ WOK x.b ∧ KOK x.x0 ∧ KOK x.chk) := by
  obtain ⟨cs, rfl, hs, hc⟩ := open_row (ts := [22, 23, 24, 5, 5, 5, 5, 5, 5, 5, 5, 5, 5, 5, 5, 5, 5, 5, 5, 5, 5, 5, 5, 5, 5, 5, 5, 5, 5, 5, 5, 5, 5, 5, 5]) (.inl ⟨_, Try.underlying28⟩) (by kernel_rfl) (by kernel_rfl) rfl hv
  obtain ⟨c0, c1, c2, r, ecs, hr⟩ := arr35 hs
  obtain rfl : cs = (c0 :: c1 :: c2 :: r).toArray := by rw [← ecs]
  have hsl := cell_slice Try.underlying22 (hc 0 c0 22 rfl rfl)
  have hsl2 := cell_slice Try.underlying24 (hc 2 c2 24 rfl rfl)
  have hby : ∀ v ∈ r, ∃ n, v = .int .u8 n ∧ 0 ≤ n ∧ n < 256 := by
    intro v hv
    obtain ⟨i, hi, rfl⟩ := List.getElem_of_mem hv
    have h5 : ([22, 23, 24, 5, 5, 5, 5, 5, 5, 5, 5, 5, 5, 5, 5, 5, 5, 5, 5, 5, 5, 5, 5, 5, 5, 5, 5, 5, 5, 5, 5, 5, 5, 5, 5] : List Nat)[i + 3]? = some 5 := by
      have h6 : ∀ i, i < 32 → ([22, 23, 24, 5, 5, 5, 5, 5, 5, 5, 5, 5, 5, 5, 5, 5, 5, 5, 5, 5, 5, 5, 5, 5, 5, 5, 5, 5, 5, 5, 5, 5, 5, 5, 5] : List Nat)[i + 3]? = some 5 := by decide
      exact h6 i (by omega)
    exact cell_u8 (hc (i + 3) r[i] 5 (by simp [hi]) h5)
  obtain ⟨x0, hx0, hk0⟩ := key_of_cells (r.take 16) (by simp; omega) (fun v hv => hby v (List.mem_of_mem_take hv))
  obtain ⟨x1, hx1, hk1⟩ := key_of_cells (r.drop 16) (by simp; omega) (fun v hv => hby v (List.mem_of_mem_drop hv))
  have er : r = (kc x0).toList ++ (kc x1).toList := by rw [← hx0, ← hx1, List.take_append_drop]
  obtain ⟨fuel, hf⟩ := h
  obtain ⟨xs, m, _, hx, hl, hxl, hff⟩ := DataW.trod_struct Try.underlying28 hf
  simp only [Prod.mk.injEq] at hx
  have hz := sized_struct hsz h1 (h2.trans (congrArg some hx.1)) Try.underlying28
  have e0 : DataW.trod enc Try.prog W 0 (fun _ => true) true m 22 (((Value.agg (c0 :: c1 :: c2 :: r).toArray).cells.toList.drop 0).take (Try.prog.cellsOf 22)) = xs[0]? := hff 0 _ rfl
  have e1 : DataW.trod enc Try.prog W 0 (fun _ => true) true m 23 (((Value.agg (c0 :: c1 :: c2 :: r).toArray).cells.toList.drop 1).take (Try.prog.cellsOf 23)) = xs[1]? := hff 1 _ rfl
  have e2 : DataW.trod enc Try.prog W 0 (fun _ => true) true m 24 (((Value.agg (c0 :: c1 :: c2 :: r).toArray).cells.toList.drop 2).take (Try.prog.cellsOf 24)) = xs[2]? := hff 2 _ rfl
  have s22 : Try.prog.cellsOf 22 = 1 := by kernel_rfl
  have s23 : Try.prog.cellsOf 23 = 1 := by kernel_rfl
  have s24 : Try.prog.cellsOf 24 = 1 := by kernel_rfl
  rw [s22] at e0
  rw [s23] at e1
  rw [s24] at e2
  have hx5 : xs.length = 5 := by rw [hxl]; decide
  have f0 := e0.trans (List.getElem?_eq_getElem (by omega))
  have f1 := e1.trans (List.getElem?_eq_getElem (by omega))
  have f2 := e2.trans (List.getElem?_eq_getElem (by omega))
  obtain ⟨b, hb, _, hwb⟩ := DataW.trod_int (k := .u64) Try.underlying23 f1
  have hb' : [c1] = [Value.int .u64 b] := hb
  simp only [List.cons.injEq, and_true] at hb'
  obtain ⟨A, n, c, rfl⟩ := hsl
  obtain ⟨P, n2, cq, rfl⟩ := hsl2
  obtain ⟨A', c', l, ev, hC, _, hlb, hp⟩ := open_rowsP k111 (fun y : S111 => KOK y.f1 ∧ I64 y.f0.f0 ∧ I64 y.f0.f1) z111 Try.underlying22 (by kernel_rfl) 32 (by kernel_rfl) (fun h => by obtain ⟨y, hy, hk⟩ := elt111 h; exact ⟨y, by rw [hy]; rfl, by rw [hy]; exact k111_mk _ y, hk⟩) hz ⟨A, n, c, rfl⟩ ⟨m, f0⟩ 0 rfl (by simp [hx5])
  simp only [Value.slice.injEq] at ev
  obtain ⟨rfl, rfl, rfl⟩ := ev
  obtain ⟨P', c'', l2, ev, hP, _, hpb, hp2⟩ := open_rowsP k74 (fun y : S74 => WOK y.f0 ∧ WOK y.f1) z74 Try.underlying24 (by kernel_rfl) 16 (by kernel_rfl) (fun h => by obtain ⟨y, hy, hk⟩ := elt74 h; exact ⟨y, by rw [hy]; rfl, by rw [hy]; exact k74_mk _ y, hk⟩) hz ⟨P, n2, cq, rfl⟩ ⟨m, f2⟩ 2 rfl (by simp [hx5])
  simp only [Value.slice.injEq] at ev
  obtain ⟨rfl, rfl, rfl⟩ := ev
  refine ⟨⟨A, c, l, b, P, cq, l2, x0, x1⟩, ?_, hC, hP, hlb, hpb, hp, hp2, wf_u64 hwb, hk0, hk1⟩
  rw [hb', er]
  rfl
end
end Go.Proofs.Ytafhimeoijmolaa.O
namespace Go.Proofs.Ytafhimeoijmolaa.O
open Go.RowKit Go.Proofs.Ytafhimeoijmolaa.K Go.Proofs.Ytafhimeoijmolaa.G Go.Proofs.YtafhimeoijmolaaW.PrintWords
theorem coverOpens_walk (W : World) (s : Sch) (_ : True) (c : SecA) (hc : Kd.C k83 W c.A c.ls.length c.ls ∧ c.ls.length * 32 ≤ 140737488351232 ∧ ∀ l ∈ c.ls, KOK l.f2 ∧ I64 l.f1)
    (h : HeadA) (hh : Kd.C k111 W h.A h.its.length h.its ∧ Kd.C k74 W h.P h.ps.length h.ps ∧ h.its.length * 32 ≤ 140737488351232 ∧ h.ps.length * 16 ≤ 140737488351232 ∧ (∀ y ∈ h.its, KOK y.f1 ∧ I64 y.f0.f0 ∧ I64 y.f0.f1) ∧ (∀ y ∈ h.ps, WOK y.f0 ∧ WOK y.f1) ∧ WOK h.b ∧ KOK h.x0 ∧ KOK h.chk) :
    Calls Try.prog 10 #[s.val, c.val, h.val] W fun e w' => e = .returned (.bool true) ∧ Below W.heap.size W w' :=
  K.opens_calls s.k s.d s.g s.p s.q s.r c.r c.p c.q h.b c.A h.A h.P c.cap h.cp h.pq h.x0 h.chk c.ls h.its h.ps W hc.1 hh.1 hh.2.1 hc.2.1 hh.2.2.1 hh.2.2.2.1 hc.2.2 (fun y hy => (hh.2.2.2.2.1 y hy).1)
end Go.Proofs.Ytafhimeoijmolaa.O
