/- Texts of this claim, one behind the other, as far as they are used: O2, KX. -/
import Derived.Test.YtafhimeoijmolaaO1
import Derived.Deep.Slices
import Derived.Deep.Fields
import Derived.ChangeSame
import Derived.Test.YtafhimeoijmolaaCoverSealsM4
import Derived.Test.YtafhimeoijmolaaCoverSealsM10
import Derived.Test.YtafhimeoijmolaaCoverSealsM11
namespace Go.Proofs.Ytafhimeoijmolaa.O
open Go.ChangeShapes Go.WideShapes Go.ChangeAt Go.RowKit Go.Deep Go.Proofs.Ytafhimeoijmolaa.G Go.Proofs.Ytafhimeoijmolaa.K Go.Proofs.YtafhimeoijmolaaW.PrintWords
set_option linter.unusedVariables false
set_option linter.unusedSimpArgs false
set_option maxRecDepth 100000 in
theorem cell_u8 {W : World} {base : Nat} {v : Value} (h : Cell.okWide Try.prog W .any base 5 v) : ∃ n, v = .int .u8 n ∧ 0 ≤ n ∧ n < 256 := by
  have ht := Try.underlying5
  simp only [ht, Cell.okWide] at h
  cases v <;> simp_all [Cell.ok]
  simp [IntKind.has, IntKind.min, IntKind.max, IntKind.signed, IntKind.bits] at h
  omega
theorem arr16 {α : Type} {cs : Array α} (h : cs.size = 16) : ∃ a b c d e f g i j k l m n o p q, cs = #[a, b, c, d, e, f, g, i, j, k, l, m, n, o, p, q] := by
  obtain ⟨l⟩ := cs
  match l, h with
  | [a, b, c, d, e, f, g, i, j, k, l, m, n, o, p, q], _ => exact ⟨a, b, c, d, e, f, g, i, j, k, l, m, n, o, p, q, rfl⟩
section
variable {H : Type} {enc : TypeId × Value → H} {W : World} {base : Nat} {v : Value} {d : DataW H} {p : List MemPlace} {ts : List TypeId} {ds : List (DataW H)}
set_option maxRecDepth 100000 in
theorem arg26 (hsz : (DataW.weightsEach Try.prog ts ds).all (· ≤ reachBytes) = true) (hv : Value.okWide Try.prog W .any base 26 v) (h : DataW.Trod enc Try.prog W 0 (fun _ => true) true 26 v d p) (j : Nat) (h1 : ts[j]? = some 26) (h2 : ds[j]? = some d) :
    ∃ k : S26, v = kv k ∧ KOK k := by
  obtain ⟨cs, rfl, hs, hc⟩ := open_row (ts := [5, 5, 5, 5, 5, 5, 5, 5, 5, 5, 5, 5, 5, 5, 5, 5]) (.inr ⟨_, _, Try.underlying26⟩) (by kernel_rfl) (by kernel_rfl) rfl hv
  obtain ⟨c0, c1, c2, c3, c4, c5, c6, c7, c8, c9, c10, c11, c12, c13, c14, c15, rfl⟩ := arr16 hs
  obtain ⟨a0, rfl, r0⟩ := cell_u8 (hc 0 c0 5 rfl rfl)
  obtain ⟨a1, rfl, r1⟩ := cell_u8 (hc 1 c1 5 rfl rfl)
  obtain ⟨a2, rfl, r2⟩ := cell_u8 (hc 2 c2 5 rfl rfl)
  obtain ⟨a3, rfl, r3⟩ := cell_u8 (hc 3 c3 5 rfl rfl)
  obtain ⟨a4, rfl, r4⟩ := cell_u8 (hc 4 c4 5 rfl rfl)
  obtain ⟨a5, rfl, r5⟩ := cell_u8 (hc 5 c5 5 rfl rfl)
  obtain ⟨a6, rfl, r6⟩ := cell_u8 (hc 6 c6 5 rfl rfl)
  obtain ⟨a7, rfl, r7⟩ := cell_u8 (hc 7 c7 5 rfl rfl)
  obtain ⟨a8, rfl, r8⟩ := cell_u8 (hc 8 c8 5 rfl rfl)
  obtain ⟨a9, rfl, r9⟩ := cell_u8 (hc 9 c9 5 rfl rfl)
  obtain ⟨a10, rfl, r10⟩ := cell_u8 (hc 10 c10 5 rfl rfl)
  obtain ⟨a11, rfl, r11⟩ := cell_u8 (hc 11 c11 5 rfl rfl)
  obtain ⟨a12, rfl, r12⟩ := cell_u8 (hc 12 c12 5 rfl rfl)
  obtain ⟨a13, rfl, r13⟩ := cell_u8 (hc 13 c13 5 rfl rfl)
  obtain ⟨a14, rfl, r14⟩ := cell_u8 (hc 14 c14 5 rfl rfl)
  obtain ⟨a15, rfl, r15⟩ := cell_u8 (hc 15 c15 5 rfl rfl)
  refine ⟨⟨a0, a1, a2, a3, a4, a5, a6, a7, a8, a9, a10, a11, a12, a13, a14, a15⟩, rfl, ?_⟩
  intro b hb
  simp only [K.bytesOf, List.mem_cons, List.not_mem_nil, or_false] at hb
  rcases hb with rfl | rfl | rfl | rfl | rfl | rfl | rfl | rfl | rfl | rfl | rfl | rfl | rfl | rfl | rfl | rfl <;> assumption
set_option maxRecDepth 100000 in
theorem elt47 {n : Nat} {cs : List Value} {x : DataW H × List MemPlace} {sp : Nat → Bool} (h : DataW.trod enc Try.prog W 0 sp true n 47 cs = some x) : ∃ y : S47, cs = [.int .i64 y.f0, .int .i64 y.f1] := by
  obtain ⟨xs, m, _, _, hl, hxl, hf⟩ := DataW.trod_struct Try.underlying47 h
  have hl2 : cs.length = 2 := hl.trans (by kernel_rfl)
  match cs, hl2 with
  | [c0, c1], _ =>
    have e0 : DataW.trod enc Try.prog W 0 sp true m 3 ((([c0, c1] : List Value).drop 0).take (Try.prog.cellsOf 3)) = xs[0]? := hf 0 _ rfl
    have e1 : DataW.trod enc Try.prog W 0 sp true m 3 ((([c0, c1] : List Value).drop 1).take (Try.prog.cellsOf 3)) = xs[1]? := hf 1 _ rfl
    obtain ⟨a0, ha0, _⟩ := DataW.trod_int (k := .i64) Try.underlying3 (e0.trans (List.getElem?_eq_getElem (by rw [hxl]; decide)))
    obtain ⟨a1, ha1, _⟩ := DataW.trod_int (k := .i64) Try.underlying3 (e1.trans (List.getElem?_eq_getElem (by rw [hxl]; decide)))
    have s3 : Try.prog.cellsOf 3 = 1 := by kernel_rfl
    rw [s3] at ha0 ha1
    have h0 : [c0] = [Value.int .i64 a0] := ha0
    have h1 : [c1] = [Value.int .i64 a1] := ha1
    simp only [List.cons.injEq, and_true] at h0 h1
    exact ⟨⟨a0, a1⟩, by rw [h0, h1]⟩
theorem open_rows {α : Type} (dk : Kd α) (z : α) {t e : TypeId} (ht : Try.prog.underlying t = some (.slice e)) (hC : Try.prog.cellsOf e = dk.sz) (bytes : Nat) (hB : Try.prog.bytesOf e = bytes)
    (helt : ∀ {n : Nat} {cs : List Value} {x : DataW H × List MemPlace}, DataW.trod enc Try.prog W 0 (fun _ => true) true n e cs = some x → ∃ y : α, cs.length = dk.sz ∧ dk.K W y cs)
    (hsz : (DataW.weightsEach Try.prog ts ds).all (· ≤ reachBytes) = true) (hv : ∃ A n c, v = .slice A n c) (h : DataW.Trod enc Try.prog W 0 (fun _ => true) true t v d p) (j : Nat) (h1 : ts[j]? = some t) (h2 : ds[j]? = some d) :
    ∃ (A : Option Addr) (c : Nat) (l : List α), v = .slice A l.length c ∧ Kd.C dk W A l.length l ∧ l.length ≤ c ∧ l.length * bytes ≤ 140737488351232 := by
  obtain ⟨A0, n0, c0, rfl⟩ := hv
  obtain ⟨fuel, hf⟩ := h
  rcases Deep.open_slice ht hf with ⟨h0, h9⟩ | ⟨a, len, cap, m, n, D, Pl, hcs, hb, hl, hm, hmm, hx, hi⟩
  · have h0' : [Value.slice A0 n0 c0] = [Value.slice none 0 0] := h0
    simp only [List.cons.injEq, and_true, Value.slice.injEq] at h0'
    obtain ⟨rfl, rfl, rfl⟩ := h0'
    exact ⟨none, 0, [], rfl, ⟨rfl, by simp, fun h => absurd h (by simp)⟩, by simp, by simp⟩
  · have h0' : [Value.slice A0 n0 c0] = [Value.slice (some a) len cap] := hcs
    simp only [List.cons.injEq, and_true, Value.slice.injEq] at h0'
    obtain ⟨rfl, rfl, rfl⟩ := h0'
    simp only [if_true] at hmm
    subst hmm
    simp only [Prod.mk.injEq] at hx
    have hs := sized_slice hsz h1 (h2.trans (congrArg some hx.1)) ht
    simp only [List.length_map, List.length_range, hB] at hs
    have hr : reachBytes = 140737488351232 := by kernel_rfl
    have hle : n0 * bytes ≤ 140737488351232 := by
      have := Nat.mul_le_mul_right bytes (show n0 ≤ n0 + (m - n0) by omega)
      omega
    have hel : ∀ i, i < n0 → ∃ y : α, ∃ cs : List Value, cs.length = dk.sz ∧ dk.K W y cs ∧ ∀ q, q < dk.sz → W.cell? ((a.add (i * dk.sz)).add q) = cs[q]? := fun i hi' => by
      obtain ⟨cs', hc, ht'⟩ := hi i (by omega)
      rw [hC] at hc
      obtain ⟨_, _, hat⟩ := World.cells?_some hc
      obtain ⟨y, hy1, hy2⟩ := helt ht'
      exact ⟨y, cs', hy1, hy2, hat⟩
    obtain ⟨f, hfn⟩ : ∃ f : Nat → α, ∀ i, i < n0 → ∃ cs : List Value, cs.length = dk.sz ∧ dk.K W (f i) cs ∧ ∀ q, q < dk.sz → W.cell? ((a.add (i * dk.sz)).add q) = cs[q]? := by
      exact ⟨fun i => if h : i < n0 then (hel i h).choose else z, fun i hi => by simp only [hi, dif_pos]; exact (hel i hi).choose_spec⟩
    refine ⟨some a, m, (List.range n0).map f, by simp, ⟨by simp, ?_, fun h => ⟨a, rfl, ?_⟩⟩, by simpa using hl, by simpa using hle⟩
    · have : maxLen = 9223372036854775807 := rfl
      simp; omega
    · intro q y hy
      have hq : q < n0 := by
        have := (List.getElem?_eq_some_iff.1 hy).1
        simpa using this
      obtain ⟨cs, h3, h4, h5⟩ := hfn q hq
      have e : y = f q := by simp [hq] at hy; exact hy.symm
      refine ⟨cs, h3, e ▸ h4, fun i u hu => ?_⟩
      have hi' : i < dk.sz := by have := (List.getElem?_eq_some_iff.1 hu).1; omega
      have h6 := h5 i hi'
      rw [hu, Go.Deep.add_add] at h6
      exact h6
set_option maxRecDepth 100000 in
theorem slice_of {t e : TypeId} (ht : Try.prog.underlying t = some (.slice e)) (hv : Value.okWide Try.prog W .any base t v) : ∃ A n c, v = .slice A n c := by
  unfold Value.okWide at hv
  simp only [ht] at hv
  exact cell_slice ht hv
set_option maxRecDepth 100000 in
theorem arg48 (hsz : (DataW.weightsEach Try.prog ts ds).all (· ≤ reachBytes) = true) (hv : Value.okWide Try.prog W .any base 48 v) (h : DataW.Trod enc Try.prog W 0 (fun _ => true) true 48 v d p) (j : Nat) (h1 : ts[j]? = some 48) (h2 : ds[j]? = some d) :
    ∃ x : Option Addr × Nat × List S47, v = .slice x.1 x.2.2.length x.2.1 ∧ (Kd.C k47 W x.1 x.2.2.length x.2.2 ∧ x.2.2.length ≤ x.2.1 ∧ x.2.2.length * 16 ≤ 140737488351232) := by
  obtain ⟨A, c, l, e, h3, h4, h5⟩ := open_rows k47 z47 Try.underlying48 (by kernel_rfl) 16 (by kernel_rfl) (fun h => by obtain ⟨y, hy⟩ := elt47 h; exact ⟨y, by rw [hy]; rfl, by rw [hy]; exact k47_mk _ y⟩) hsz (slice_of Try.underlying48 hv) h j h1 h2
  exact ⟨(A, c, l), e, h3, h4, h5⟩
end
end Go.Proofs.Ytafhimeoijmolaa.O
namespace Go.Proofs.Ytafhimeoijmolaa.K
open Go.RowKit  Go.Proofs.YtafhimeoijmolaaW.PrintWords Go.Proofs.YtafhimeoijmolaaW.PrintLast Go.Proofs.YtafhimeoijmolaaW.PrintMore Go.Proofs.Ytafhimeoijmolaa.G
set_option linter.unusedVariables false
set_option linter.unusedSimpArgs false
set_option maxRecDepth 100000 in
theorem info47' : (Try.prog.info? 47).map (fun i => (i.zero, i.size, i.bytes)) = some (some (.agg #[.int .i64 0, .int .i64 0]), 2, 16) := by kernel_rfl
theorem R_empty {α : Type} (d : Kd α) (W : World) (e : TypeId) (ok : Nat → Prop) (hok : ok W.heap.size) : Kd.R d e (W.alloc (.cells #[] e)) W.heap.size ok (.slice (some ⟨W.heap.size, 0, none⟩) 0 0) [] := by
  refine ⟨fun k hk => ?_, [], ?_, ⟨by simp, fun j p hj => by simp at hj⟩⟩
  · have : W.heap.size = k := by simpa [Value.ownBlock] using hk
    subst this
    exact hok
  · have h2 := World.ownsRow_lit (base := W.heap.size) (e := e) (size := d.sz) W #[] 0 (Nat.le_refl _) (by simp [maxLen]) (by simp)
    simpa using h2
set_option maxHeartbeats 4000000 in
set_option maxRecDepth 100000 in
theorem seals_calls (root session : S26) (hkr : KOK root) (hks : KOK session) (a0 a1 a2 a3 a4 a5 : Int) (A : Option Addr) (cap : Nat) (l : List S47) (w : World) (hC : Kd.C k47 w A l.length l) (hlc : l.length ≤ cap) (hlb : l.length * 16 ≤ 140737488351232) :
    Calls Try.prog 6 #[kv root, .agg #[.int .u8 a0, .int .i64 a1, .int .i64 a2, .int .u64 a3, .int .u64 a4, .int .u64 a5], .slice A l.length cap, kv session] w fun e' w' => e' = .returned (.bool true) ∧ Below w.heap.size w w' := by
  obtain ⟨W0, hW0⟩ : ∃ W0, (((w.alloc (.cells (kc root) 26)).alloc (.cells #[.int .u8 a0, .int .i64 a1, .int .i64 a2, .int .u64 a3, .int .u64 a4, .int .u64 a5] 45)).alloc (.cells (kc session) 26)) = W0 := ⟨_, rfl⟩
  have B0 := Aside0.mk (show W0.heap[w.heap.size]? = some (.cells (kc root) 26 (0, 0)) by rw [← hW0]; exact (blk_alloc (blk_alloc (newAt rfl) _) _))
  have B1 := Aside0.mk (show W0.heap[w.heap.size + 1]? = some (.cells #[.int .u8 a0, .int .i64 a1, .int .i64 a2, .int .u64 a3, .int .u64 a4, .int .u64 a5] 45 (0, 0)) by rw [← hW0]; exact (blk_alloc (newAt (by simp)) _))
  have B2 := Aside0.mk (show W0.heap[w.heap.size + 1 + 1]? = some (.cells (kc session) 26 (0, 0)) by rw [← hW0]; exact (newAt (by simp)))
  have BB := Aside0.mk (show Below w.heap.size w W0 by rw [← hW0]; exact ((((Below.refl _ w).alloc (Nat.le_refl _) _).alloc (by simp) _).alloc (by simp; omega) _))
  have BBs := Aside0.mk (show w.heap.size + 3 = W0.heap.size by rw [← hW0]; simp)
  have HW := Aside0.mk hW0
  clear hW0
  have HP := Aside0.mk (progSeal root session a0 a1 a2 a3 a4 a5)
  have HR := Aside0.mk (refSeal root session hkr hks a0 a1 a2 a3 a4 a5)
  obtain ⟨R, hR⟩ : ∃ R, R = sealR a0 a1 a2 a3 a4 a5 l root session := ⟨_, rfl⟩
  have HRR := Aside0.mk hR
  obtain ⟨err, its, chk⟩ := R
  have HC := Aside0.mk (Kd.C_below hC BB.out)
  have HLC := Aside0.mk hlc
  have hlen : l.length ≤ 4611686018427387904 := by omega
  have HLB := Aside0.mk hlb
  clear hR hC hlc hkr hks hlb
  go_enter Try.func6, Try.ntmps6
  go_upto_region 1 with (fail)
  show Code.wp _ _ _ _ (((w.alloc (.cells (kc root) 26)).alloc (.cells #[.int .u8 a0, .int .i64 a1, .int .i64 a2, .int .u64 a3, .int .u64 a4, .int .u64 a5] 45)).alloc (.cells (kc session) 26))
  rw [HW.out]
  have R0 := Aside0.mk (R_empty k47 W0 47 (fun _ => True) trivial)
  have HC1 := Aside0.mk (Kd.C_below HC.out ((Below.refl _ W0).alloc (Nat.le_refl _) (.cells #[] 47)))
  have BB1 := Aside0.mk ((Below.refl W0.heap.size W0).alloc (Nat.le_refl _) (.cells #[] 47))
  have hW1 : (W0.alloc (.cells #[] 47)).heap.size = W0.heap.size + 1 := by simp
  have HW1 := Aside0.mk hW1
  clear hW1
  go_wp2_with (first
    | (at_builtin; refine Kd.R_append_rows k47 (w0 := W0) W0.heap.size rfl _ _ 48 47 (.agg #[.int .i64 0, .int .i64 0]) 16 rfl Try.underlying48 info47' rfl (by decide) (by decide) (.slice (some ⟨W0.heap.size, 0, none⟩) 0 0) [] l A l.length cap (fun _ => True) (fun _ => False) rfl rfl R0.out HC1.out (fun x c h => by rw [k47_open h]; exact k47_mkM _ _ _ x) (fun _ h => h.elim) (fun _ _ => trivial) BB1.out (by rw [HW1.out]; omega) (by have := HLB.out; simp; omega) ?_; intro v1 w1 hR1 hB1 hg1 hat1; have R1 := Aside0.mk hR1; have B4 := Aside0.mk hB1; clear hR1 hB1 hg1 hat1)
    | ((with_reducible refine ldR rfl rfl (blk_to B0.out B4.out) ?_ ?_ ?_); rfl; exact row26)
    | ((with_reducible refine ldR rfl rfl (blk_to B1.out B4.out) ?_ ?_ ?_); rfl; exact row45)
    | ((with_reducible refine ldR rfl rfl (blk_to B2.out B4.out) ?_ ?_ ?_); rfl; exact row26))
  obtain ⟨A1, c1, e1, hl1, hC1⟩ := Kd.R_reads R1.out
  simp only [List.nil_append] at e1 hl1 hC1
  subst e1
  have HC3 := Aside0.mk hC1
  have HL1 := Aside0.mk hl1
  clear hl1 hC1 R0 HC1 BB1 HW1
  go_at_call 38
  refine (HP.out A1 c1 l _ HC3.out HL1.out).mono ?_
  rw [← HRR.out]
  rintro e2 w2 ⟨v2, rfl, hr2, hb2⟩
  obtain ⟨A2, n2, c2, rfl⟩ : ∃ A n m, v2 = .slice A n m := by obtain ⟨A, m, h⟩ := Kd.R_slice hr2; exact ⟨A, _, m, h⟩
  have D0 := Aside0.mk (blk_to (blk_to B0.out B4.out) hb2); have D1 := Aside0.mk (blk_to (blk_to B1.out B4.out) hb2); have D2 := Aside0.mk (blk_to (blk_to B2.out B4.out) hb2)
  have R2 := Aside0.mk hr2
  have B5 := Aside0.mk (show Below w.heap.size w w2 from (BB.out.trans (B4.out.mono BB.out.size)).trans (hb2.mono ((BB.out.trans (B4.out.mono BB.out.size)).size)))
  have hs2 : w.heap.size + 3 ≤ w2.heap.size := by have := BBs.out; have := B4.out.size; have := hb2.size; omega
  have HC4 := Aside0.mk (Kd.C_below HC3.out hb2)
  have HCl := Aside0.mk (Kd.C_below (Kd.C_below HC.out B4.out) hb2)
  clear hr2 hb2 HC3 R1 HP
  go_wp2_with (first
    | (((with_reducible refine stR rfl rfl (newAt rfl) (hc (.slice A2 n2 c2) 0 (.slice none 0 0) z26 chk) ?_ ?_ ?_ ?_ ?_ ?_); rfl; rfl; exact row28; rfl; rfl; intro W3 P1); have E0 := Aside0.mk (P1.blk (blk_alloc D0.out _) (by omega)); have E1 := Aside0.mk (P1.blk (blk_alloc D1.out _) (by omega)); have E2 := Aside0.mk (P1.blk (blk_alloc D2.out _) (by omega)); have EA := Aside0.mk P1.at_; have EB := Aside0.mk (show Below w2.heap.size w2 W3 from P1.below ((Below.refl _ _).alloc (Nat.le_refl _) _) (Nat.le_refl _)); clear P1)
    | ((with_reducible refine ldR rfl rfl E0.out ?_ ?_ ?_); rfl; exact row26)
    | ((with_reducible refine ldR rfl rfl E1.out ?_ ?_ ?_); rfl; exact row45)
    | ((with_reducible refine ldR rfl rfl E2.out ?_ ?_ ?_); rfl; exact row26))
  go_at_call 39
  have B6 := Aside0.mk (B5.out.trans (EB.out.mono B5.out.size))
  have HC5 := Aside0.mk (show Kd.C k47 W3 A l.length l from Kd.C_below HCl.out EB.out)
  refine (HR.out A cap l _ HC5.out).mono ?_
  rw [← HRR.out]
  rintro e3 w3 ⟨v3, rfl, hr3, hb3⟩
  obtain ⟨A3, n3, c3, rfl⟩ : ∃ A n m, v3 = .slice A n m := by obtain ⟨A, m, h⟩ := Kd.R_slice hr3; exact ⟨A, _, m, h⟩
  have F4 := Aside0.mk (blk_to EA.out hb3)
  have R3 := Aside0.mk hr3
  have R4 := Aside0.mk (Kd.R_below (Kd.R_below R2.out EB.out) hb3)
  have B7 := Aside0.mk (B6.out.trans (hb3.mono B6.out.size))
  have HC6 := Aside0.mk (Kd.C_below HC5.out hb3)
  have HC7 := Aside0.mk (Kd.C_below (Kd.C_below HC4.out EB.out) hb3)
  have hs3 : w2.heap.size < w3.heap.size := by have h1 := (Array.getElem?_eq_some_iff.1 F4.out).1; exact h1
  clear hr3 hb3 HR R2 EA EB
  go_wp2_with (first
    | (((with_reducible refine stR rfl rfl (newAt rfl) (hc (.slice A3 n3 c3) 0 (.slice none 0 0) z26 chk) ?_ ?_ ?_ ?_ ?_ ?_); rfl; rfl; exact row28; rfl; rfl; intro W4 P2); have G4 := Aside0.mk (P2.blk (blk_alloc F4.out _) (by omega)); have GA := Aside0.mk P2.at_; have GB := Aside0.mk (show Below w3.heap.size w3 W4 from P2.below ((Below.refl _ _).alloc (Nat.le_refl _) _) (Nat.le_refl _)); clear P2)
    | ((with_reducible refine ldR rfl rfl G4.out ?_ ?_ ?_); rfl; exact row28)
    | ((with_reducible refine ldR rfl rfl GA.out ?_ ?_ ?_); rfl; exact row28))
  go_at_call 25
  obtain ⟨hn2, _, hc2⟩ := Kd.R_reads' (Kd.R_below R4.out GB.out)
  obtain ⟨hn3, _, hc3⟩ := Kd.R_reads' (Kd.R_below R3.out GB.out)
  subst hn2
  subst hn3
  have B8 := Aside0.mk (B7.out.trans (GB.out.mono B7.out.size))
  have HC8 := Aside0.mk (Kd.C_below HC6.out GB.out)
  have HC9 := Aside0.mk (Kd.C_below HC7.out GB.out)
  refine (SameHeader_same A2 A3 none none c2 c3 0 0 0 z26 chk its [] _ hc2 hc3 ⟨rfl, by simp, fun h => absurd h (by simp)⟩ ⟨rfl, by simp, fun h => absurd h (by simp)⟩).mono ?_
  rintro e4 w4 ⟨rfl, hb4⟩
  have B9 := Aside0.mk (B8.out.trans (hb4.mono B8.out.size))
  have HCa := Aside0.mk (Kd.C_below HC8.out hb4)
  have HCb := Aside0.mk (Kd.C_below HC9.out hb4)
  clear hb4 hc2 hc3
  go_wp2_with fail
  go_at_call 30
  refine (headendref03_SameSubsets.calls (l.length + 1) A1 c1 l A cap l true _ HCb.out HL1.out HCa.out HLC.out (sameSubsets_big l hlen)).mono ?_
  rintro e5 w5 ⟨rfl, ⟨nd, rfl⟩⟩
  go_wp2
  go_ret
  exact ⟨rfl, pw_below_drewN B9.out _⟩
end Go.Proofs.Ytafhimeoijmolaa.K
namespace Go.Proofs.Ytafhimeoijmolaa.O
open Go.RowKit Go.Proofs.Ytafhimeoijmolaa.K Go.Proofs.Ytafhimeoijmolaa.G Go.Proofs.YtafhimeoijmolaaW.PrintWords
theorem coverSeals_walk (W : World) (root : S26) (hr : KOK root) (s : Sch) (_ : True) (x : Option Addr × Nat × List S47) (hx : Kd.C k47 W x.1 x.2.2.length x.2.2 ∧ x.2.2.length ≤ x.2.1 ∧ x.2.2.length * 16 ≤ 140737488351232) (session : S26) (hs : KOK session) :
    Calls Try.prog 6 #[kv root, s.val, .slice x.1 x.2.2.length x.2.1, kv session] W fun e w' => e = .returned (.bool true) ∧ Below W.heap.size W w' :=
  K.seals_calls root session hr hs s.k s.d s.g s.p s.q s.r x.1 x.2.1 x.2.2 W hx.1 hx.2.1 hx.2.2
end Go.Proofs.Ytafhimeoijmolaa.O
