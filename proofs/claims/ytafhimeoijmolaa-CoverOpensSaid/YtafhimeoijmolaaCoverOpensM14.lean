/- Texts of this claim, one behind the other, as far as they are used: M9. -/
import Derived.Test.YtafhimeoijmolaaCoverOpensM11
import Derived.Test.YtafhimeoijmolaaCoverOpensM13
namespace Go.Proofs.Ytafhimeoijmolaa.K
open Go.RowKit  Go.Proofs.YtafhimeoijmolaaW.PrintWords Go.Proofs.YtafhimeoijmolaaW.PrintLast Go.Proofs.YtafhimeoijmolaaW.PrintMore Go.Proofs.Ytafhimeoijmolaa.G
set_option linter.unusedVariables false
set_option linter.unusedSimpArgs false
attribute [local go_sem high] eqK eqK0
theorem findF_total {a d : Nat} {v t : Int} (ha : 1 ≤ a) (ha3 : a ≤ 3) (hd : d ≤ 6) (hs : subI a d v t = true) : ∀ (ls : List S83), (∀ l ∈ ls, I64 l.f1) → ∃ r, findF (a : Int) v t ls = some r
  | [], _ => ⟨_, rfl⟩
  | l :: ls, h => by
    obtain ⟨b, h1, h2, h3⟩ := leads_n (n := l.f0) ha ha3 hd hs (h l (List.mem_cons_self ..))
    simp only [findF, h1, Option.bind_some]
    cases b with
    | false => simpa using findF_total ha ha3 hd hs ls (fun y hy => h y (List.mem_cons_of_mem _ hy))
    | true =>
      rw [if_pos rfl]
      by_cases hx : (a : Int) = 1 ∨ t = 0
      · rw [if_pos hx]; exact ⟨_, rfl⟩
      · rw [if_neg hx]
        obtain ⟨p, q, e1, e2, hp, hq, hb⟩ := h3 rfl (fun e => hx (.inl e)) (fun e => hx (.inr e))
        rw [e1, e2, path_n hp hq hb]
        exact ⟨_, rfl⟩
theorem labOK_n {a d : Nat} {v t : Int} (ha : 1 ≤ a) (ha3 : a ≤ 3) (hd : d ≤ 6) (hs : subI a d v t = true) {ls : List S83} (h : ∀ l ∈ ls, KOK l.f2 ∧ I64 l.f1) : LabOK (a : Int) (d : Int) 0 0 0 0 v t ls := by
  refine ⟨fun l hl => ?_, fun l hl => (h l hl).1⟩
  obtain ⟨b, h1, h2, h3⟩ := leads_n (n := l.f0) ha ha3 hd hs (h l hl).2
  refine ⟨b, h1, h2, fun e e1 e2 => ?_⟩
  obtain ⟨p, q, ep, eq, hp, hq, hb⟩ := h3 e e1 e2
  rw [ep, eq, path_n hp hq hb]
  refine ⟨⟨20, _, rPath_n hp hq hb (Nat.le_refl _), rfl, ?_, by simp⟩⟩
  intro y hy
  obtain ⟨z, _, rfl⟩ := List.mem_map.1 hy
  exact Int.natCast_nonneg z
theorem openF_total {a d : Nat} (ha : 1 ≤ a) (ha3 : a ≤ 3) (hd : d ≤ 6) {ls : List S83} (hl : ∀ l ∈ ls, I64 l.f1) (chk : S26) : ∀ (its : List S111), (its.all fun x => subI a d x.f0.f0 x.f0.f1) = true → ∃ r, openF (a : Int) ls chk its = some r
  | [], _ => ⟨_, rfl⟩
  | x :: xs, h => by
    simp only [List.all_cons, Bool.and_eq_true] at h
    obtain ⟨r, hr⟩ := findF_total ha ha3 hd h.1 ls hl
    obtain ⟨r2, hr2⟩ := openF_total ha ha3 hd hl chk xs h.2
    simp only [openF, hr, Option.bind_some]
    split
    · split
      · exact ⟨_, rfl⟩
      · exact ⟨_, hr2⟩
    · exact ⟨_, hr2⟩
theorem hdrB_all {sub : S47 → Bool} {its : List S111} {np : Nat} {b : Int} {x0 : S26} (h : hdrB sub its np b x0 = true) : (its.all fun x => sub x.f0) = true := by
  unfold hdrB at h
  simp only [Bool.and_eq_true] at h
  exact h.2.2.2.2
theorem opens_both (a0 a1 a2 a3 a4 a5 rcv p q b : Int) (x0 chk : S26) (ls : List S83) (its : List S111) (np : Nat) (hnp : np ≤ 9223372036854775807) (hl : ∀ l ∈ ls, KOK l.f2 ∧ I64 l.f1) (hx : ∀ x ∈ its, KOK x.f1) :
    ∃ r : S26 × Int, (∀ (LA A P : Option Addr) (cap cp pq : Nat) (w : World), PlainA A → Kd.C k83 w LA ls.length ls → Kd.C k111 w A its.length its → Calls Try.prog 50 #[.agg #[.int .u8 a0, .int .i64 a1, .int .i64 a2, .int .u64 a3, .int .u64 a4, .int .u64 a5], sv rcv LA ls.length cap p q, hv (.slice A its.length cp) b (.slice P np pq) x0 chk] w fun e' w' => e' = .returned (.tuple #[kv r.1, .int .i64 r.2]) ∧ Below w.heap.size w w') ∧
      (∀ (LA A P : Option Addr) (cap cp pq : Nat) (w : World), Kd.C k83 w LA ls.length ls → Kd.C k111 w A its.length its → Calls Try.prog 51 #[.agg #[.int .u8 a0, .int .i64 a1, .int .i64 a2, .int .u64 a3, .int .u64 a4, .int .u64 a5], sv rcv LA ls.length cap p q, hv (.slice A its.length cp) b (.slice P np pq) x0 chk] w fun e' w' => e' = .returned (.tuple #[kv r.1, .int .i64 r.2]) ∧ Below w.heap.size w w') := by
  by_cases hv : ValidI a0 a1 a2 a3 a4 a5
  · obtain ⟨a, d, rfl, rfl, ha, ha3, hd, rfl, rfl, rfl, rfl⟩ := hv.nat
    have h1 := enter_nil (k := 70) ha ha3 hd (by omega)
    have hsub : ∀ x : S111, cover_tree_subset.f 4 (a : Int) (d : Int) (strd d : Int) x.f0.f0 x.f0.f1 = some (subI a d x.f0.f0 x.f0.f1) := fun x => subset_n _ _ ha ha3 hd (Nat.le_refl _)
    have hsub2 : ∀ x ∈ its, headendref03_IsSubset.f 31 (a : Int) (d : Int) 0 0 0 0 x.f0.f0 x.f0.f1 = some (subI a d x.f0.f0 x.f0.f1) := fun x _ => rSubset_n _ _ _ _ _ _ ha ha3 hd (Nat.le_refl _)
    cases hh : hdrB (fun x => subI a d x.f0 x.f1) its np b x0 with
    | false =>
      refine ⟨(z26, 8), fun LA A P cap cp pq w hA hL hC => ?_, fun LA A P cap cp pq w hL hC => ?_⟩
      · have h := Open_calls a d 0 0 0 0 rcv p q LA cap ls A P hA cp pq np b x0 chk its a d (strd d) 0 4 (fun x => subI a d x.f0 x.f1) (z26, 0) w hL hC hnp h1 (fun _ => hsub) (fun _ h => by rw [hh] at h; cases h)
        unfold openR at h
        rw [if_pos rfl, hh] at h
        exact h
      · exact rOpen_bad a d 0 0 0 0 rcv p q b LA A P ls.length cap cp np pq x0 chk its w hC hnp 31 (fun x => subI a d x.f0 x.f1) hsub2 (rValid_good ha ha3 hd) hh
    | true =>
      have hall := hdrB_all hh
      obtain ⟨r, hr⟩ := openF_total ha ha3 hd (fun l h => (hl l h).2) chk its hall
      refine ⟨r, fun LA A P cap cp pq w hA hL hC => ?_, fun LA A P cap cp pq w hL hC => ?_⟩
      · have h := Open_calls a d 0 0 0 0 rcv p q LA cap ls A P hA cp pq np b x0 chk its a d (strd d) 0 4 (fun x => subI a d x.f0 x.f1) r w hL hC hnp h1 (fun _ => hsub) (fun _ _ => hr)
        unfold openR at h
        rw [if_pos rfl, hh, if_pos rfl] at h
        exact h
      · exact rOpen_ok a d 0 0 0 0 rcv p q b LA A P cap cp np pq x0 chk ls its r w hL hC hnp 31 (fun x => subI a d x.f0 x.f1) hsub2 (rValid_good ha ha3 hd) hh (fun x h => labOK_n ha ha3 hd (List.all_eq_true.1 hall x h) hl) hx hr
  · refine ⟨(z26, 30), fun LA A P cap cp pq w hA hL hC => ?_, fun LA A P cap cp pq w hL hC => rOpen_v a0 a1 a2 a3 a4 a5 rcv p q b LA A P ls.length cap its.length cp np pq x0 chk w (rValid_bad hv)⟩
    have h := Open_calls a0 a1 a2 a3 a4 a5 rcv p q LA cap ls A P hA cp pq np b x0 chk its 0 0 0 30 4 (fun _ => false) (z26, 0) w hL hC hnp (enter_bad [] hv (by omega)) (fun e => by cases e) (fun e => by cases e)
    exact h
theorem plainA_of_R {α : Type} {d : Kd α} {e : Nat} {w : World} {base n c : Nat} {ok : Nat → Prop} {A : Option Addr} {xs : List α} (h : Kd.R d e w base ok (.slice A n c) xs) : PlainA A := by
  intro ad ea
  subst ea
  obtain ⟨_, _, ho, _⟩ := h
  rcases ho.2 with ⟨hv, _⟩ | ⟨_, _, _, hv, _⟩
  · cases hv
  · simp only [Value.slice.injEq, Option.some.injEq] at hv
    rw [hv.1]
structure Tw (W : World) (ls : List S83) (its : List S111) (ps : List S74) (b1 b3 b4 b5 : Bool) (g7 g8 : Nat) (A1 A2 A3 : Option Addr) (c1 c2 c3 : Nat) (w : World) : Prop where
  below : Below W.heap.size W w
  s : b1 = true → Kd.R k83 83 w W.heap.size (fun _ => True) (.slice A1 ls.length c1) ls
  i : b3 = true → Kd.R k111 111 w W.heap.size (fun _ => True) (.slice A2 its.length c2) its
  p : b3 = true → Kd.R k74 74 w W.heap.size (fun _ => True) (.slice A3 ps.length c3) ps
  o : b4 = true → W.heap.size ≤ g7 ∧ w.heap[g7]? = some (.cells (sc 0 none 0 0 0 0) 76 (0, 0))
  h : b5 = true → W.heap.size ≤ g8 ∧ w.heap[g8]? = some (.cells (hc (.slice none 0 0) 0 (.slice none 0 0) z26 z26) 28 (0, 0))
section
variable {W w w' : World} {ls : List S83} {its : List S111} {ps : List S74} {b1 b3 b4 b5 : Bool} {g7 g8 : Nat} {A1 A2 A3 : Option Addr} {c1 c2 c3 : Nat}
theorem Tw.on (T : Tw W ls its ps b1 b3 b4 b5 g7 g8 A1 A2 A3 c1 c2 c3 w) (hb : Below w.heap.size w w') : Tw W ls its ps b1 b3 b4 b5 g7 g8 A1 A2 A3 c1 c2 c3 w' :=
  ⟨T.below.trans (hb.mono T.below.size), fun e => Kd.R_below (T.s e) hb, fun e => Kd.R_below (T.i e) hb, fun e => Kd.R_below (T.p e) hb, fun e => ⟨(T.o e).1, blk_to (T.o e).2 hb⟩, fun e => ⟨(T.h e).1, blk_to (T.h e).2 hb⟩⟩
theorem Tw.call1 {A : Option Addr} {c : Nat} (T : Tw W ls its ps b1 b3 b4 b5 g7 g8 A1 A2 A3 c1 c2 c3 w) (hb : Below w.heap.size w w') (hr : Kd.R k83 83 w' w.heap.size (fun _ => True) (.slice A ls.length c) ls) : Tw W ls its ps true b3 b4 b5 g7 g8 A A2 A3 c c2 c3 w' :=
  let T2 := T.on hb
  ⟨T2.below, fun _ => Kd.R_lower hr T.below.size, T2.i, T2.p, T2.o, T2.h⟩
theorem Tw.call3 {A P : Option Addr} {c q : Nat} (T : Tw W ls its ps b1 b3 b4 b5 g7 g8 A1 A2 A3 c1 c2 c3 w) (hb : Below w.heap.size w w') (hr : Kd.R k111 111 w' w.heap.size (fun _ => True) (.slice A its.length c) its) (hp : Kd.R k74 74 w' w.heap.size (fun _ => True) (.slice P ps.length q) ps) : Tw W ls its ps b1 true b4 b5 g7 g8 A1 A P c1 c q w' :=
  let T2 := T.on hb
  ⟨T2.below, T2.s, fun _ => Kd.R_lower hr T.below.size, fun _ => Kd.R_lower hp T.below.size, T2.o, T2.h⟩
theorem Tw.box4 (T : Tw W ls its ps b1 b3 b4 b5 g7 g8 A1 A2 A3 c1 c2 c3 w) : Tw W ls its ps b1 b3 true b5 w.heap.size g8 A1 A2 A3 c1 c2 c3 (w.alloc (.cells (sc 0 none 0 0 0 0) 76)) :=
  let T2 := T.on ((Below.refl w.heap.size w).alloc (Nat.le_refl _) _)
  ⟨T2.below, T2.s, T2.i, T2.p, fun _ => ⟨T.below.size, newAt rfl⟩, T2.h⟩
theorem Tw.box5 (T : Tw W ls its ps b1 b3 b4 b5 g7 g8 A1 A2 A3 c1 c2 c3 w) : Tw W ls its ps b1 b3 b4 true g7 w.heap.size A1 A2 A3 c1 c2 c3 (w.alloc (.cells (hc (.slice none 0 0) 0 (.slice none 0 0) z26 z26) 28)) :=
  let T2 := T.on ((Below.refl w.heap.size w).alloc (Nat.le_refl _) _)
  ⟨T2.below, T2.s, T2.i, T2.p, T2.o, fun _ => ⟨T.below.size, newAt rfl⟩⟩
theorem Tw.opq (T : Tw W ls its ps b1 b3 b4 b5 g7 g8 A1 A2 A3 c1 c2 c3 w) {C : World → Prop} (h : ∀ w, Tw W ls its ps b1 b3 b4 b5 g7 g8 A1 A2 A3 c1 c2 c3 w → C w) : C w := h w T
theorem Tw.so (T : Tw W ls its ps b1 b3 b4 b5 g7 g8 A1 A2 A3 c1 c2 c3 w) : SO W none w := ⟨T.below.size, fun j hj _ => T.below.block j hj⟩
structure TwE (W : World) (ls : List S83) (its : List S111) (ps : List S74) (s : Array Value) (h : Array Value) (g7 g8 : Nat) (A1 A2 A3 : Option Addr) (c1 c2 c3 : Nat) (w : World) : Prop where
  below : Below W.heap.size W w
  rs : Kd.R k83 83 w W.heap.size (fun _ => True) (.slice A1 ls.length c1) ls
  ri : Kd.R k111 111 w W.heap.size (fun _ => True) (.slice A2 its.length c2) its
  rp : Kd.R k74 74 w W.heap.size (fun _ => True) (.slice A3 ps.length c3) ps
  bo : w.heap[g7]? = some (.cells s 76 (0, 0))
  bh : w.heap[g8]? = some (.cells h 28 (0, 0))
  b7 : W.heap.size ≤ g7
  b8 : W.heap.size ≤ g8
theorem Tw.ne (T : Tw W ls its ps true true true true g7 g8 A1 A2 A3 c1 c2 c3 w) : g8 ≠ g7 := by
  intro e
  have h1 := (T.o rfl).2
  have h2 := (T.h rfl).2
  rw [e, h1] at h2
  cases h2
theorem Tw.fin (T : Tw W ls its ps true true true true g7 g8 A1 A2 A3 c1 c2 c3 w) {wa wb : World} {s h : Array Value} (P1 : Put1 w wa g7 s 76) (P2 : Put1 wa wb g8 h 28) : TwE W ls its ps s h g7 g8 A1 A2 A3 c1 c2 c3 wb := by
  obtain ⟨h7, o7⟩ := T.o rfl
  obtain ⟨h8, o8⟩ := T.h rfl
  have hne := T.ne
  have o8a := P1.blk o8 hne
  refine ⟨P2.below (P1.below T.below h7) h8, ?_, ?_, ?_, P2.blk P1.at_ (Ne.symm hne), P2.at_, h7, h8⟩
  · have r1 := Kd.R_step (w1 := wa) (Kd.R_types (T.s rfl) o7 (by intro q hq; have : q = 83 := (by have e : k83.E = [] := rfl; rw [e] at hq; simpa using hq); subst this; decide)) (fun j hj _ => P1.oth j hj.2)
    exact Kd.R_mono (Kd.R_step (w1 := wb) (Kd.R_types (Kd.R_mono r1 (fun _ _ => trivial)) o8a (by intro q hq; have : q = 83 := (by have e : k83.E = [] := rfl; rw [e] at hq; simpa using hq); subst this; decide)) (fun j hj _ => P2.oth j hj.2)) (fun _ _ => trivial)
  · have r1 := Kd.R_step (w1 := wa) (Kd.R_types (T.i rfl) o7 (by intro q hq; have : q = 111 := (by have e : k111.E = [] := rfl; rw [e] at hq; simpa using hq); subst this; decide)) (fun j hj _ => P1.oth j hj.2)
    exact Kd.R_mono (Kd.R_step (w1 := wb) (Kd.R_types (Kd.R_mono r1 (fun _ _ => trivial)) o8a (by intro q hq; have : q = 111 := (by have e : k111.E = [] := rfl; rw [e] at hq; simpa using hq); subst this; decide)) (fun j hj _ => P2.oth j hj.2)) (fun _ _ => trivial)
  · have r1 := Kd.R_step (w1 := wa) (Kd.R_types (T.p rfl) o7 (by intro q hq; have : q = 74 := (by have e : k74.E = [] := rfl; rw [e] at hq; simpa using hq); subst this; decide)) (fun j hj _ => P1.oth j hj.2)
    exact Kd.R_mono (Kd.R_step (w1 := wb) (Kd.R_types (Kd.R_mono r1 (fun _ _ => trivial)) o8a (by intro q hq; have : q = 74 := (by have e : k74.E = [] := rfl; rw [e] at hq; simpa using hq); subst this; decide)) (fun j hj _ => P2.oth j hj.2)) (fun _ _ => trivial)
end
theorem nextThree {P : Program} {md : Region.Mode} {ops : Array Oper} {Q : Exit → Act → World → Prop} {S : World → Prop} {m : Nat} (i j l : Nat) {o o2 o3 : Oper} {f : Nat} {listed : Array Bool} {a : Act} {w : World} (hr : Region.ready md ops listed = [i, j, l]) (ho : ops[i]? = some o) (ho2 : ops[j]? = some o2) (ho3 : ops[l]? = some o3)
    (h : ∀ K : Act → World → Prop, Shut (∀ a w, (preM ops m (listed.setIfInBounds i true) = true → S w) → AnyM P md ops Q S m f (listed.setIfInBounds i true) a w → K a w) → if Region.wanted o (yielded ops a.tmps) = true then Oper.wp P o a w K Q else K (a.put o.dst undef) w)
    (h2 : ∀ K : Act → World → Prop, Shut (∀ a w, (preM ops m (listed.setIfInBounds j true) = true → S w) → AnyM P md ops Q S m f (listed.setIfInBounds j true) a w → K a w) → if Region.wanted o2 (yielded ops a.tmps) = true then Oper.wp P o2 a w K Q else K (a.put o2.dst undef) w)
    (h3 : ∀ K : Act → World → Prop, Shut (∀ a w, (preM ops m (listed.setIfInBounds l true) = true → S w) → AnyM P md ops Q S m f (listed.setIfInBounds l true) a w → K a w) → if Region.wanted o3 (yielded ops a.tmps) = true then Oper.wp P o3 a w K Q else K (a.put o3.dst undef) w) :
    AnyM P md ops Q S m (f + 1) listed a w := by
  refine ⟨fun h0 => (by rw [hr] at h0; cases h0), fun k hk => ?_⟩
  rw [hr] at hk
  rcases List.mem_cons.1 hk with rfl | hk
  · exact wpOp_step ho (fun K' hK => h K' (fun a w h1 h2 => hK a w ⟨h1, h2⟩))
  · rcases List.mem_cons.1 hk with rfl | hk
    · exact wpOp_step ho2 (fun K' hK => h2 K' (fun a w h1 h2 => hK a w ⟨h1, h2⟩))
    · obtain rfl := List.mem_singleton.1 hk
      exact wpOp_step ho3 (fun K' hK => h3 K' (fun a w h1 h2 => hK a w ⟨h1, h2⟩))
set_option maxHeartbeats 40000000 in
set_option maxRecDepth 100000 in
theorem opens_calls (a0 a1 a2 a3 a4 a5 rcv p q b : Int) (LA A P : Option Addr) (cap cp pq : Nat) (x0 chk : S26) (ls : List S83) (its : List S111) (ps : List S74) (w : World) (hL : Kd.C k83 w LA ls.length ls) (hC : Kd.C k111 w A its.length its) (hP : Kd.C k74 w P ps.length ps)
    (hlb : ls.length * 32 ≤ 140737488351232) (hib : its.length * 32 ≤ 140737488351232) (hpb : ps.length * 16 ≤ 140737488351232) (hl : ∀ l ∈ ls, KOK l.f2 ∧ I64 l.f1) (hx : ∀ x ∈ its, KOK x.f1) :
    Calls Try.prog 10 #[.agg #[.int .u8 a0, .int .i64 a1, .int .i64 a2, .int .u64 a3, .int .u64 a4, .int .u64 a5], sv rcv LA ls.length cap p q, hv (.slice A its.length cp) b (.slice P ps.length pq) x0 chk] w fun e' w' => e' = .returned (.bool true) ∧ Below w.heap.size w w' := by
  obtain ⟨W0, hW0⟩ : ∃ W0, (((w.alloc (.cells #[.int .u8 a0, .int .i64 a1, .int .i64 a2, .int .u64 a3, .int .u64 a4, .int .u64 a5] 45)).alloc (.cells (sc rcv LA ls.length cap p q) 76)).alloc (.cells (hc (.slice A its.length cp) b (.slice P ps.length pq) x0 chk) 28)) = W0 := ⟨_, rfl⟩
  have B0 := Aside0.mk (show W0.heap[w.heap.size]? = some (.cells #[.int .u8 a0, .int .i64 a1, .int .i64 a2, .int .u64 a3, .int .u64 a4, .int .u64 a5] 45 (0, 0)) by rw [← hW0]; exact (blk_alloc (blk_alloc (newAt rfl) _) _))
  have B1 := Aside0.mk (show W0.heap[w.heap.size + 1]? = some (.cells (sc rcv LA ls.length cap p q) 76 (0, 0)) by rw [← hW0]; exact (blk_alloc (newAt (by simp)) _))
  have B2 := Aside0.mk (show W0.heap[w.heap.size + 1 + 1]? = some (.cells (hc (.slice A its.length cp) b (.slice P ps.length pq) x0 chk) 28 (0, 0)) by rw [← hW0]; exact (newAt (by simp)))
  have BB := Aside0.mk (show Below w.heap.size w W0 by rw [← hW0]; exact ((((Below.refl _ w).alloc (Nat.le_refl _) _).alloc (by simp) _).alloc (by simp; omega) _))
  have BBs := Aside0.mk (show w.heap.size + 3 = W0.heap.size by rw [← hW0]; simp)
  have HW := Aside0.mk hW0
  clear hW0
  obtain ⟨r, hO, hR⟩ := opens_both a0 a1 a2 a3 a4 a5 rcv p q b x0 chk ls its ps.length hP.2.1 hl hx
  have HO := Aside0.mk hO; have HRR := Aside0.mk hR
  have HL := Aside0.mk (Kd.C_below hL BB.out); have HC := Aside0.mk (Kd.C_below hC BB.out); have HP := Aside0.mk (Kd.C_below hP BB.out)
  have hsz := BBs.out
  clear hO hR hL hC hP hl hx
  go_enter Try.func10, Try.ntmps10
  go_upto_region 1 with (fail)
  show Code.wp _ _ _ _ (((w.alloc (.cells #[.int .u8 a0, .int .i64 a1, .int .i64 a2, .int .u64 a3, .int .u64 a4, .int .u64 a5] 45)).alloc (.cells (sc rcv LA ls.length cap p q) 76)).alloc (.cells (hc (.slice A its.length cp) b (.slice P ps.length pq) x0 chk) 28))
  rw [HW.out]
  obtain ⟨Qf, hQf⟩ : ∃ Qf : Act → Act → World → Prop, ∀ a a' w', Qf a a' w' ↔ (∃ (g7 g8 : Nat) (A1 A2 A3 : Option Addr) (c1 c2 c3 : Nat), a' = ((((((a.put (some 13) (sv rcv LA ls.length cap p q)).put (some 15) (hv (.slice A its.length cp) b (.slice P ps.length pq) x0 chk)).put (some 14) (sv rcv A1 ls.length c1 p q)).put (some 16) (hv (.slice A2 its.length c2) b (.slice A3 ps.length c3) x0 chk)).put (some 7) (.pointer (some ⟨g7, 0, none⟩))).put (some 8) (.pointer (some ⟨g8, 0, none⟩))) ∧ TwE W0 ls its ps (sc rcv A1 ls.length c1 p q) (hc (.slice A2 its.length c2) b (.slice A3 ps.length c3) x0 chk) g7 g8 A1 A2 A3 c1 c2 c3 w') := ⟨_, fun _ _ _ => Iff.rfl⟩
  refine region_join Qf ?_ ?_
  · refine beginB none 99 8 rfl nf_join (fun NF S => ?_)
    refine takeR 0 13 rfl (by kernel_rfl) (by kernel_rfl) (by kernel_rfl) (by kernel_rfl) rfl rfl rfl B1.out (by simp) NF S rfl row76 ?_; (try simp only [Act.put, List.setIfInBounds_toArray, List.set_cons_zero, List.set_cons_succ])
    refine takeR 2 15 rfl (by kernel_rfl) (by kernel_rfl) (by kernel_rfl) (by kernel_rfl) rfl rfl rfl B2.out (by simp) NF S rfl row28 ?_; (try simp only [Act.put, List.setIfInBounds_toArray, List.set_cons_zero, List.set_cons_succ])
    have T : Tw W0 ls its ps false false false false 0 0 none none none 0 0 0 W0.drew := ⟨(Below.refl _ _).drew, fun e => (by cases e), fun e => (by cases e), fun e => (by cases e), fun e => (by cases e), fun e => (by cases e)⟩
    refine Tw.opq T (C := fun w => AnyM _ _ _ _ _ _ _ _ _ w) ?_
    clear T S
    intro wz T
    refine nextThree 1 4 5 (by kernel_rfl) rfl rfl rfl (fun K1 hK1 => ?_) (fun K4 hK4 => ?_) (fun K5 hK5 => ?_)
    · go_simp
      go_at_call 49
      refine (TwinSecret_calls rcv p q LA cap ls _ (Kd.C_below HL.out T.below) hlb).mono ?_
      rintro e1 wx ⟨A1, c1, rfl, hr1, hb1⟩
      have T := T.call1 hb1 hr1
      refine hK1.out _ _ (fun _ => T.so) ?_
      (try simp only [Act.put, List.setIfInBounds_toArray, List.set_cons_zero, List.set_cons_succ])
      refine nextThree 3 4 5 (by kernel_rfl) rfl rfl rfl (fun K3 hK3 => ?_) (fun K4 hK4 => ?_) (fun K5 hK5 => ?_)
      · go_simp
        go_at_call 22
        refine (TwinHeader_calls A P cp pq b x0 chk its ps _ (Kd.C_below HC.out T.below) (Kd.C_below HP.out T.below) hib hpb).mono ?_
        rintro e3 wy ⟨A2, c2, A3, c3, rfl, hr3, hp3, hb3⟩
        have T := T.call3 hb3 hr3 hp3
        refine hK3.out _ _ (fun _ => T.so) ?_
        (try simp only [Act.put, List.setIfInBounds_toArray, List.set_cons_zero, List.set_cons_succ])
        refine nextTwo 4 5 (by kernel_rfl) rfl rfl (fun K4 hK4 => ?_) (fun K5 hK5 => ?_)
        · go_simp
          have T := T.box4
          refine hK4.out _ _ (fun _ => T.so) ?_
          (try simp only [Act.put, List.setIfInBounds_toArray, List.set_cons_zero, List.set_cons_succ])
          refine Tw.opq T (C := fun w => AnyM _ _ _ _ _ _ _ _ _ w) ?_
          clear T
          intro wz T
          refine nextM 5 (by kernel_rfl) rfl (fun K5 hK5 => ?_)
          go_simp
          have T := T.box5
          refine hK5.out _ _ (fun _ => T.so) ?_
          (try simp only [Act.put, List.setIfInBounds_toArray, List.set_cons_zero, List.set_cons_succ])
          refine Tw.opq T (C := fun w => AnyM _ _ _ _ _ _ _ _ _ w) ?_
          clear T
          intro wz T
          refine nextM 6 (by kernel_rfl) rfl (fun K6 hK6 => ?_)
          rw [if_pos (by rfl)]
          refine wp_stR (ty := 76) rfl (T.o rfl).2 (sc rcv A1 ls.length c1 p q) rfl rfl row76 rfl rfl (fun wa P1 => ?_)
          refine hK6.out _ _ (fun _ => ⟨(P1.below T.below (T.o rfl).1).size, fun j hj _ => (P1.below T.below (T.o rfl).1).block j hj⟩) ?_
          show AnyM _ _ _ _ _ _ _ _ (Act.put _ none undef) _
          (try simp only [Act.put, List.setIfInBounds_toArray, List.set_cons_zero, List.set_cons_succ])
          refine nextM 7 (by kernel_rfl) rfl (fun K7 hK7 => ?_)
          rw [if_pos (by rfl)]
          refine wp_stR (ty := 28) rfl (P1.blk (T.h rfl).2 T.ne) (hc (.slice A2 its.length c2) b (.slice A3 ps.length c3) x0 chk) rfl rfl row28 rfl rfl (fun wb P2 => ?_)
          have E := T.fin P1 P2
          refine hK7.out _ _ (fun _ => ⟨E.below.size, fun j hj _ => E.below.block j hj⟩) ?_
          show AnyM _ _ _ _ _ _ _ _ (Act.put _ none undef) _
          (try simp only [Act.put, List.setIfInBounds_toArray, List.set_cons_zero, List.set_cons_succ])
          refine doneM (by kernel_rfl) ⟨rfl, (hQf _ _ _).2 ⟨_, _, A1, A2, A3, c1, c2, c3, ?_, E⟩⟩ _
          show Act.put _ none undef = _
          (try simp only [Act.put, List.setIfInBounds_toArray, List.set_cons_zero, List.set_cons_succ])
        · go_simp
          have T := T.box5
          refine hK5.out _ _ (fun _ => T.so) ?_
          (try simp only [Act.put, List.setIfInBounds_toArray, List.set_cons_zero, List.set_cons_succ])
          refine Tw.opq T (C := fun w => AnyM _ _ _ _ _ _ _ _ _ w) ?_
          clear T
          intro wz T
          refine nextM 4 (by kernel_rfl) rfl (fun K4 hK4 => ?_)
          go_simp
          have T := T.box4
          refine hK4.out _ _ (fun _ => T.so) ?_
          (try simp only [Act.put, List.setIfInBounds_toArray, List.set_cons_zero, List.set_cons_succ])
          refine Tw.opq T (C := fun w => AnyM _ _ _ _ _ _ _ _ _ w) ?_
          clear T
          intro wz T
          refine nextM 6 (by kernel_rfl) rfl (fun K6 hK6 => ?_)
          rw [if_pos (by rfl)]
          refine wp_stR (ty := 76) rfl (T.o rfl).2 (sc rcv A1 ls.length c1 p q) rfl rfl row76 rfl rfl (fun wa P1 => ?_)
          refine hK6.out _ _ (fun _ => ⟨(P1.below T.below (T.o rfl).1).size, fun j hj _ => (P1.below T.below (T.o rfl).1).block j hj⟩) ?_
          show AnyM _ _ _ _ _ _ _ _ (Act.put _ none undef) _
          (try simp only [Act.put, List.setIfInBounds_toArray, List.set_cons_zero, List.set_cons_succ])
          refine nextM 7 (by kernel_rfl) rfl (fun K7 hK7 => ?_)
          rw [if_pos (by rfl)]
          refine wp_stR (ty := 28) rfl (P1.blk (T.h rfl).2 T.ne) (hc (.slice A2 its.length c2) b (.slice A3 ps.length c3) x0 chk) rfl rfl row28 rfl rfl (fun wb P2 => ?_)
          have E := T.fin P1 P2
          refine hK7.out _ _ (fun _ => ⟨E.below.size, fun j hj _ => E.below.block j hj⟩) ?_
          show AnyM _ _ _ _ _ _ _ _ (Act.put _ none undef) _
          (try simp only [Act.put, List.setIfInBounds_toArray, List.set_cons_zero, List.set_cons_succ])
          refine doneM (by kernel_rfl) ⟨rfl, (hQf _ _ _).2 ⟨_, _, A1, A2, A3, c1, c2, c3, ?_, E⟩⟩ _
          show Act.put _ none undef = _
          (try simp only [Act.put, List.setIfInBounds_toArray, List.set_cons_zero, List.set_cons_succ])
      · go_simp
        have T := T.box4
        refine hK4.out _ _ (fun _ => T.so) ?_
        (try simp only [Act.put, List.setIfInBounds_toArray, List.set_cons_zero, List.set_cons_succ])
        refine Tw.opq T (C := fun w => AnyM _ _ _ _ _ _ _ _ _ w) ?_
        clear T
        intro wz T
        refine nextTwo 3 5 (by kernel_rfl) rfl rfl (fun K3 hK3 => ?_) (fun K5 hK5 => ?_)
        · go_simp
          go_at_call 22
          refine (TwinHeader_calls A P cp pq b x0 chk its ps _ (Kd.C_below HC.out T.below) (Kd.C_below HP.out T.below) hib hpb).mono ?_
          rintro e3 wy ⟨A2, c2, A3, c3, rfl, hr3, hp3, hb3⟩
          have T := T.call3 hb3 hr3 hp3
          refine hK3.out _ _ (fun _ => T.so) ?_
          (try simp only [Act.put, List.setIfInBounds_toArray, List.set_cons_zero, List.set_cons_succ])
          refine nextM 5 (by kernel_rfl) rfl (fun K5 hK5 => ?_)
          go_simp
          have T := T.box5
          refine hK5.out _ _ (fun _ => T.so) ?_
          (try simp only [Act.put, List.setIfInBounds_toArray, List.set_cons_zero, List.set_cons_succ])
          refine Tw.opq T (C := fun w => AnyM _ _ _ _ _ _ _ _ _ w) ?_
          clear T
          intro wz T
          refine nextM 6 (by kernel_rfl) rfl (fun K6 hK6 => ?_)
          rw [if_pos (by rfl)]
          refine wp_stR (ty := 76) rfl (T.o rfl).2 (sc rcv A1 ls.length c1 p q) rfl rfl row76 rfl rfl (fun wa P1 => ?_)
          refine hK6.out _ _ (fun _ => ⟨(P1.below T.below (T.o rfl).1).size, fun j hj _ => (P1.below T.below (T.o rfl).1).block j hj⟩) ?_
          show AnyM _ _ _ _ _ _ _ _ (Act.put _ none undef) _
          (try simp only [Act.put, List.setIfInBounds_toArray, List.set_cons_zero, List.set_cons_succ])
          refine nextM 7 (by kernel_rfl) rfl (fun K7 hK7 => ?_)
          rw [if_pos (by rfl)]
          refine wp_stR (ty := 28) rfl (P1.blk (T.h rfl).2 T.ne) (hc (.slice A2 its.length c2) b (.slice A3 ps.length c3) x0 chk) rfl rfl row28 rfl rfl (fun wb P2 => ?_)
          have E := T.fin P1 P2
          refine hK7.out _ _ (fun _ => ⟨E.below.size, fun j hj _ => E.below.block j hj⟩) ?_
          show AnyM _ _ _ _ _ _ _ _ (Act.put _ none undef) _
          (try simp only [Act.put, List.setIfInBounds_toArray, List.set_cons_zero, List.set_cons_succ])
          refine doneM (by kernel_rfl) ⟨rfl, (hQf _ _ _).2 ⟨_, _, A1, A2, A3, c1, c2, c3, ?_, E⟩⟩ _
          show Act.put _ none undef = _
          (try simp only [Act.put, List.setIfInBounds_toArray, List.set_cons_zero, List.set_cons_succ])
        · go_simp
          have T := T.box5
          refine hK5.out _ _ (fun _ => T.so) ?_
          (try simp only [Act.put, List.setIfInBounds_toArray, List.set_cons_zero, List.set_cons_succ])
          refine Tw.opq T (C := fun w => AnyM _ _ _ _ _ _ _ _ _ w) ?_
          clear T
          intro wz T
          refine nextM 3 (by kernel_rfl) rfl (fun K3 hK3 => ?_)
          go_simp
          go_at_call 22
          refine (TwinHeader_calls A P cp pq b x0 chk its ps _ (Kd.C_below HC.out T.below) (Kd.C_below HP.out T.below) hib hpb).mono ?_
          rintro e3 wy ⟨A2, c2, A3, c3, rfl, hr3, hp3, hb3⟩
          have T := T.call3 hb3 hr3 hp3
          refine hK3.out _ _ (fun _ => T.so) ?_
          (try simp only [Act.put, List.setIfInBounds_toArray, List.set_cons_zero, List.set_cons_succ])
          refine nextM 6 (by kernel_rfl) rfl (fun K6 hK6 => ?_)
          rw [if_pos (by rfl)]
          refine wp_stR (ty := 76) rfl (T.o rfl).2 (sc rcv A1 ls.length c1 p q) rfl rfl row76 rfl rfl (fun wa P1 => ?_)
          refine hK6.out _ _ (fun _ => ⟨(P1.below T.below (T.o rfl).1).size, fun j hj _ => (P1.below T.below (T.o rfl).1).block j hj⟩) ?_
          show AnyM _ _ _ _ _ _ _ _ (Act.put _ none undef) _
          (try simp only [Act.put, List.setIfInBounds_toArray, List.set_cons_zero, List.set_cons_succ])
          refine nextM 7 (by kernel_rfl) rfl (fun K7 hK7 => ?_)
          rw [if_pos (by rfl)]
          refine wp_stR (ty := 28) rfl (P1.blk (T.h rfl).2 T.ne) (hc (.slice A2 its.length c2) b (.slice A3 ps.length c3) x0 chk) rfl rfl row28 rfl rfl (fun wb P2 => ?_)
          have E := T.fin P1 P2
          refine hK7.out _ _ (fun _ => ⟨E.below.size, fun j hj _ => E.below.block j hj⟩) ?_
          show AnyM _ _ _ _ _ _ _ _ (Act.put _ none undef) _
          (try simp only [Act.put, List.setIfInBounds_toArray, List.set_cons_zero, List.set_cons_succ])
          refine doneM (by kernel_rfl) ⟨rfl, (hQf _ _ _).2 ⟨_, _, A1, A2, A3, c1, c2, c3, ?_, E⟩⟩ _
          show Act.put _ none undef = _
          (try simp only [Act.put, List.setIfInBounds_toArray, List.set_cons_zero, List.set_cons_succ])
      · go_simp
        have T := T.box5
        refine hK5.out _ _ (fun _ => T.so) ?_
        (try simp only [Act.put, List.setIfInBounds_toArray, List.set_cons_zero, List.set_cons_succ])
        refine Tw.opq T (C := fun w => AnyM _ _ _ _ _ _ _ _ _ w) ?_
        clear T
        intro wz T
        refine nextTwo 3 4 (by kernel_rfl) rfl rfl (fun K3 hK3 => ?_) (fun K4 hK4 => ?_)
        · go_simp
          go_at_call 22
          refine (TwinHeader_calls A P cp pq b x0 chk its ps _ (Kd.C_below HC.out T.below) (Kd.C_below HP.out T.below) hib hpb).mono ?_
          rintro e3 wy ⟨A2, c2, A3, c3, rfl, hr3, hp3, hb3⟩
          have T := T.call3 hb3 hr3 hp3
          refine hK3.out _ _ (fun _ => T.so) ?_
          (try simp only [Act.put, List.setIfInBounds_toArray, List.set_cons_zero, List.set_cons_succ])
          refine nextM 4 (by kernel_rfl) rfl (fun K4 hK4 => ?_)
          go_simp
          have T := T.box4
          refine hK4.out _ _ (fun _ => T.so) ?_
          (try simp only [Act.put, List.setIfInBounds_toArray, List.set_cons_zero, List.set_cons_succ])
          refine Tw.opq T (C := fun w => AnyM _ _ _ _ _ _ _ _ _ w) ?_
          clear T
          intro wz T
          refine nextM 6 (by kernel_rfl) rfl (fun K6 hK6 => ?_)
          rw [if_pos (by rfl)]
          refine wp_stR (ty := 76) rfl (T.o rfl).2 (sc rcv A1 ls.length c1 p q) rfl rfl row76 rfl rfl (fun wa P1 => ?_)
          refine hK6.out _ _ (fun _ => ⟨(P1.below T.below (T.o rfl).1).size, fun j hj _ => (P1.below T.below (T.o rfl).1).block j hj⟩) ?_
          show AnyM _ _ _ _ _ _ _ _ (Act.put _ none undef) _
          (try simp only [Act.put, List.setIfInBounds_toArray, List.set_cons_zero, List.set_cons_succ])
          refine nextM 7 (by kernel_rfl) rfl (fun K7 hK7 => ?_)
          rw [if_pos (by rfl)]
          refine wp_stR (ty := 28) rfl (P1.blk (T.h rfl).2 T.ne) (hc (.slice A2 its.length c2) b (.slice A3 ps.length c3) x0 chk) rfl rfl row28 rfl rfl (fun wb P2 => ?_)
          have E := T.fin P1 P2
          refine hK7.out _ _ (fun _ => ⟨E.below.size, fun j hj _ => E.below.block j hj⟩) ?_
          show AnyM _ _ _ _ _ _ _ _ (Act.put _ none undef) _
          (try simp only [Act.put, List.setIfInBounds_toArray, List.set_cons_zero, List.set_cons_succ])
          refine doneM (by kernel_rfl) ⟨rfl, (hQf _ _ _).2 ⟨_, _, A1, A2, A3, c1, c2, c3, ?_, E⟩⟩ _
          show Act.put _ none undef = _
          (try simp only [Act.put, List.setIfInBounds_toArray, List.set_cons_zero, List.set_cons_succ])
        · go_simp
          have T := T.box4
          refine hK4.out _ _ (fun _ => T.so) ?_
          (try simp only [Act.put, List.setIfInBounds_toArray, List.set_cons_zero, List.set_cons_succ])
          refine Tw.opq T (C := fun w => AnyM _ _ _ _ _ _ _ _ _ w) ?_
          clear T
          intro wz T
          refine nextM 3 (by kernel_rfl) rfl (fun K3 hK3 => ?_)
          go_simp
          go_at_call 22
          refine (TwinHeader_calls A P cp pq b x0 chk its ps _ (Kd.C_below HC.out T.below) (Kd.C_below HP.out T.below) hib hpb).mono ?_
          rintro e3 wy ⟨A2, c2, A3, c3, rfl, hr3, hp3, hb3⟩
          have T := T.call3 hb3 hr3 hp3
          refine hK3.out _ _ (fun _ => T.so) ?_
          (try simp only [Act.put, List.setIfInBounds_toArray, List.set_cons_zero, List.set_cons_succ])
          refine nextM 6 (by kernel_rfl) rfl (fun K6 hK6 => ?_)
          rw [if_pos (by rfl)]
          refine wp_stR (ty := 76) rfl (T.o rfl).2 (sc rcv A1 ls.length c1 p q) rfl rfl row76 rfl rfl (fun wa P1 => ?_)
          refine hK6.out _ _ (fun _ => ⟨(P1.below T.below (T.o rfl).1).size, fun j hj _ => (P1.below T.below (T.o rfl).1).block j hj⟩) ?_
          show AnyM _ _ _ _ _ _ _ _ (Act.put _ none undef) _
          (try simp only [Act.put, List.setIfInBounds_toArray, List.set_cons_zero, List.set_cons_succ])
          refine nextM 7 (by kernel_rfl) rfl (fun K7 hK7 => ?_)
          rw [if_pos (by rfl)]
          refine wp_stR (ty := 28) rfl (P1.blk (T.h rfl).2 T.ne) (hc (.slice A2 its.length c2) b (.slice A3 ps.length c3) x0 chk) rfl rfl row28 rfl rfl (fun wb P2 => ?_)
          have E := T.fin P1 P2
          refine hK7.out _ _ (fun _ => ⟨E.below.size, fun j hj _ => E.below.block j hj⟩) ?_
          show AnyM _ _ _ _ _ _ _ _ (Act.put _ none undef) _
          (try simp only [Act.put, List.setIfInBounds_toArray, List.set_cons_zero, List.set_cons_succ])
          refine doneM (by kernel_rfl) ⟨rfl, (hQf _ _ _).2 ⟨_, _, A1, A2, A3, c1, c2, c3, ?_, E⟩⟩ _
          show Act.put _ none undef = _
          (try simp only [Act.put, List.setIfInBounds_toArray, List.set_cons_zero, List.set_cons_succ])
    · go_simp
      have T := T.box4
      refine hK4.out _ _ (fun _ => T.so) ?_
      (try simp only [Act.put, List.setIfInBounds_toArray, List.set_cons_zero, List.set_cons_succ])
      refine Tw.opq T (C := fun w => AnyM _ _ _ _ _ _ _ _ _ w) ?_
      clear T
      intro wz T
      refine nextTwo 1 5 (by kernel_rfl) rfl rfl (fun K1 hK1 => ?_) (fun K5 hK5 => ?_)
      · go_simp
        go_at_call 49
        refine (TwinSecret_calls rcv p q LA cap ls _ (Kd.C_below HL.out T.below) hlb).mono ?_
        rintro e1 wx ⟨A1, c1, rfl, hr1, hb1⟩
        have T := T.call1 hb1 hr1
        refine hK1.out _ _ (fun _ => T.so) ?_
        (try simp only [Act.put, List.setIfInBounds_toArray, List.set_cons_zero, List.set_cons_succ])
        refine nextTwo 3 5 (by kernel_rfl) rfl rfl (fun K3 hK3 => ?_) (fun K5 hK5 => ?_)
        · go_simp
          go_at_call 22
          refine (TwinHeader_calls A P cp pq b x0 chk its ps _ (Kd.C_below HC.out T.below) (Kd.C_below HP.out T.below) hib hpb).mono ?_
          rintro e3 wy ⟨A2, c2, A3, c3, rfl, hr3, hp3, hb3⟩
          have T := T.call3 hb3 hr3 hp3
          refine hK3.out _ _ (fun _ => T.so) ?_
          (try simp only [Act.put, List.setIfInBounds_toArray, List.set_cons_zero, List.set_cons_succ])
          refine nextM 5 (by kernel_rfl) rfl (fun K5 hK5 => ?_)
          go_simp
          have T := T.box5
          refine hK5.out _ _ (fun _ => T.so) ?_
          (try simp only [Act.put, List.setIfInBounds_toArray, List.set_cons_zero, List.set_cons_succ])
          refine Tw.opq T (C := fun w => AnyM _ _ _ _ _ _ _ _ _ w) ?_
          clear T
          intro wz T
          refine nextM 6 (by kernel_rfl) rfl (fun K6 hK6 => ?_)
          rw [if_pos (by rfl)]
          refine wp_stR (ty := 76) rfl (T.o rfl).2 (sc rcv A1 ls.length c1 p q) rfl rfl row76 rfl rfl (fun wa P1 => ?_)
          refine hK6.out _ _ (fun _ => ⟨(P1.below T.below (T.o rfl).1).size, fun j hj _ => (P1.below T.below (T.o rfl).1).block j hj⟩) ?_
          show AnyM _ _ _ _ _ _ _ _ (Act.put _ none undef) _
          (try simp only [Act.put, List.setIfInBounds_toArray, List.set_cons_zero, List.set_cons_succ])
          refine nextM 7 (by kernel_rfl) rfl (fun K7 hK7 => ?_)
          rw [if_pos (by rfl)]
          refine wp_stR (ty := 28) rfl (P1.blk (T.h rfl).2 T.ne) (hc (.slice A2 its.length c2) b (.slice A3 ps.length c3) x0 chk) rfl rfl row28 rfl rfl (fun wb P2 => ?_)
          have E := T.fin P1 P2
          refine hK7.out _ _ (fun _ => ⟨E.below.size, fun j hj _ => E.below.block j hj⟩) ?_
          show AnyM _ _ _ _ _ _ _ _ (Act.put _ none undef) _
          (try simp only [Act.put, List.setIfInBounds_toArray, List.set_cons_zero, List.set_cons_succ])
          refine doneM (by kernel_rfl) ⟨rfl, (hQf _ _ _).2 ⟨_, _, A1, A2, A3, c1, c2, c3, ?_, E⟩⟩ _
          show Act.put _ none undef = _
          (try simp only [Act.put, List.setIfInBounds_toArray, List.set_cons_zero, List.set_cons_succ])
        · go_simp
          have T := T.box5
          refine hK5.out _ _ (fun _ => T.so) ?_
          (try simp only [Act.put, List.setIfInBounds_toArray, List.set_cons_zero, List.set_cons_succ])
          refine Tw.opq T (C := fun w => AnyM _ _ _ _ _ _ _ _ _ w) ?_
          clear T
          intro wz T
          refine nextM 3 (by kernel_rfl) rfl (fun K3 hK3 => ?_)
          go_simp
          go_at_call 22
          refine (TwinHeader_calls A P cp pq b x0 chk its ps _ (Kd.C_below HC.out T.below) (Kd.C_below HP.out T.below) hib hpb).mono ?_
          rintro e3 wy ⟨A2, c2, A3, c3, rfl, hr3, hp3, hb3⟩
          have T := T.call3 hb3 hr3 hp3
          refine hK3.out _ _ (fun _ => T.so) ?_
          (try simp only [Act.put, List.setIfInBounds_toArray, List.set_cons_zero, List.set_cons_succ])
          refine nextM 6 (by kernel_rfl) rfl (fun K6 hK6 => ?_)
          rw [if_pos (by rfl)]
          refine wp_stR (ty := 76) rfl (T.o rfl).2 (sc rcv A1 ls.length c1 p q) rfl rfl row76 rfl rfl (fun wa P1 => ?_)
          refine hK6.out _ _ (fun _ => ⟨(P1.below T.below (T.o rfl).1).size, fun j hj _ => (P1.below T.below (T.o rfl).1).block j hj⟩) ?_
          show AnyM _ _ _ _ _ _ _ _ (Act.put _ none undef) _
          (try simp only [Act.put, List.setIfInBounds_toArray, List.set_cons_zero, List.set_cons_succ])
          refine nextM 7 (by kernel_rfl) rfl (fun K7 hK7 => ?_)
          rw [if_pos (by rfl)]
          refine wp_stR (ty := 28) rfl (P1.blk (T.h rfl).2 T.ne) (hc (.slice A2 its.length c2) b (.slice A3 ps.length c3) x0 chk) rfl rfl row28 rfl rfl (fun wb P2 => ?_)
          have E := T.fin P1 P2
          refine hK7.out _ _ (fun _ => ⟨E.below.size, fun j hj _ => E.below.block j hj⟩) ?_
          show AnyM _ _ _ _ _ _ _ _ (Act.put _ none undef) _
          (try simp only [Act.put, List.setIfInBounds_toArray, List.set_cons_zero, List.set_cons_succ])
          refine doneM (by kernel_rfl) ⟨rfl, (hQf _ _ _).2 ⟨_, _, A1, A2, A3, c1, c2, c3, ?_, E⟩⟩ _
          show Act.put _ none undef = _
          (try simp only [Act.put, List.setIfInBounds_toArray, List.set_cons_zero, List.set_cons_succ])
      · go_simp
        have T := T.box5
        refine hK5.out _ _ (fun _ => T.so) ?_
        (try simp only [Act.put, List.setIfInBounds_toArray, List.set_cons_zero, List.set_cons_succ])
        refine Tw.opq T (C := fun w => AnyM _ _ _ _ _ _ _ _ _ w) ?_
        clear T
        intro wz T
        refine nextM 1 (by kernel_rfl) rfl (fun K1 hK1 => ?_)
        go_simp
        go_at_call 49
        refine (TwinSecret_calls rcv p q LA cap ls _ (Kd.C_below HL.out T.below) hlb).mono ?_
        rintro e1 wx ⟨A1, c1, rfl, hr1, hb1⟩
        have T := T.call1 hb1 hr1
        refine hK1.out _ _ (fun _ => T.so) ?_
        (try simp only [Act.put, List.setIfInBounds_toArray, List.set_cons_zero, List.set_cons_succ])
        refine nextM 3 (by kernel_rfl) rfl (fun K3 hK3 => ?_)
        go_simp
        go_at_call 22
        refine (TwinHeader_calls A P cp pq b x0 chk its ps _ (Kd.C_below HC.out T.below) (Kd.C_below HP.out T.below) hib hpb).mono ?_
        rintro e3 wy ⟨A2, c2, A3, c3, rfl, hr3, hp3, hb3⟩
        have T := T.call3 hb3 hr3 hp3
        refine hK3.out _ _ (fun _ => T.so) ?_
        (try simp only [Act.put, List.setIfInBounds_toArray, List.set_cons_zero, List.set_cons_succ])
        refine nextM 6 (by kernel_rfl) rfl (fun K6 hK6 => ?_)
        rw [if_pos (by rfl)]
        refine wp_stR (ty := 76) rfl (T.o rfl).2 (sc rcv A1 ls.length c1 p q) rfl rfl row76 rfl rfl (fun wa P1 => ?_)
        refine hK6.out _ _ (fun _ => ⟨(P1.below T.below (T.o rfl).1).size, fun j hj _ => (P1.below T.below (T.o rfl).1).block j hj⟩) ?_
        show AnyM _ _ _ _ _ _ _ _ (Act.put _ none undef) _
        (try simp only [Act.put, List.setIfInBounds_toArray, List.set_cons_zero, List.set_cons_succ])
        refine nextM 7 (by kernel_rfl) rfl (fun K7 hK7 => ?_)
        rw [if_pos (by rfl)]
        refine wp_stR (ty := 28) rfl (P1.blk (T.h rfl).2 T.ne) (hc (.slice A2 its.length c2) b (.slice A3 ps.length c3) x0 chk) rfl rfl row28 rfl rfl (fun wb P2 => ?_)
        have E := T.fin P1 P2
        refine hK7.out _ _ (fun _ => ⟨E.below.size, fun j hj _ => E.below.block j hj⟩) ?_
        show AnyM _ _ _ _ _ _ _ _ (Act.put _ none undef) _
        (try simp only [Act.put, List.setIfInBounds_toArray, List.set_cons_zero, List.set_cons_succ])
        refine doneM (by kernel_rfl) ⟨rfl, (hQf _ _ _).2 ⟨_, _, A1, A2, A3, c1, c2, c3, ?_, E⟩⟩ _
        show Act.put _ none undef = _
        (try simp only [Act.put, List.setIfInBounds_toArray, List.set_cons_zero, List.set_cons_succ])
    · go_simp
      have T := T.box5
      refine hK5.out _ _ (fun _ => T.so) ?_
      (try simp only [Act.put, List.setIfInBounds_toArray, List.set_cons_zero, List.set_cons_succ])
      refine Tw.opq T (C := fun w => AnyM _ _ _ _ _ _ _ _ _ w) ?_
      clear T
      intro wz T
      refine nextTwo 1 4 (by kernel_rfl) rfl rfl (fun K1 hK1 => ?_) (fun K4 hK4 => ?_)
      · go_simp
        go_at_call 49
        refine (TwinSecret_calls rcv p q LA cap ls _ (Kd.C_below HL.out T.below) hlb).mono ?_
        rintro e1 wx ⟨A1, c1, rfl, hr1, hb1⟩
        have T := T.call1 hb1 hr1
        refine hK1.out _ _ (fun _ => T.so) ?_
        (try simp only [Act.put, List.setIfInBounds_toArray, List.set_cons_zero, List.set_cons_succ])
        refine nextTwo 3 4 (by kernel_rfl) rfl rfl (fun K3 hK3 => ?_) (fun K4 hK4 => ?_)
        · go_simp
          go_at_call 22
          refine (TwinHeader_calls A P cp pq b x0 chk its ps _ (Kd.C_below HC.out T.below) (Kd.C_below HP.out T.below) hib hpb).mono ?_
          rintro e3 wy ⟨A2, c2, A3, c3, rfl, hr3, hp3, hb3⟩
          have T := T.call3 hb3 hr3 hp3
          refine hK3.out _ _ (fun _ => T.so) ?_
          (try simp only [Act.put, List.setIfInBounds_toArray, List.set_cons_zero, List.set_cons_succ])
          refine nextM 4 (by kernel_rfl) rfl (fun K4 hK4 => ?_)
          go_simp
          have T := T.box4
          refine hK4.out _ _ (fun _ => T.so) ?_
          (try simp only [Act.put, List.setIfInBounds_toArray, List.set_cons_zero, List.set_cons_succ])
          refine Tw.opq T (C := fun w => AnyM _ _ _ _ _ _ _ _ _ w) ?_
          clear T
          intro wz T
          refine nextM 6 (by kernel_rfl) rfl (fun K6 hK6 => ?_)
          rw [if_pos (by rfl)]
          refine wp_stR (ty := 76) rfl (T.o rfl).2 (sc rcv A1 ls.length c1 p q) rfl rfl row76 rfl rfl (fun wa P1 => ?_)
          refine hK6.out _ _ (fun _ => ⟨(P1.below T.below (T.o rfl).1).size, fun j hj _ => (P1.below T.below (T.o rfl).1).block j hj⟩) ?_
          show AnyM _ _ _ _ _ _ _ _ (Act.put _ none undef) _
          (try simp only [Act.put, List.setIfInBounds_toArray, List.set_cons_zero, List.set_cons_succ])
          refine nextM 7 (by kernel_rfl) rfl (fun K7 hK7 => ?_)
          rw [if_pos (by rfl)]
          refine wp_stR (ty := 28) rfl (P1.blk (T.h rfl).2 T.ne) (hc (.slice A2 its.length c2) b (.slice A3 ps.length c3) x0 chk) rfl rfl row28 rfl rfl (fun wb P2 => ?_)
          have E := T.fin P1 P2
          refine hK7.out _ _ (fun _ => ⟨E.below.size, fun j hj _ => E.below.block j hj⟩) ?_
          show AnyM _ _ _ _ _ _ _ _ (Act.put _ none undef) _
          (try simp only [Act.put, List.setIfInBounds_toArray, List.set_cons_zero, List.set_cons_succ])
          refine doneM (by kernel_rfl) ⟨rfl, (hQf _ _ _).2 ⟨_, _, A1, A2, A3, c1, c2, c3, ?_, E⟩⟩ _
          show Act.put _ none undef = _
          (try simp only [Act.put, List.setIfInBounds_toArray, List.set_cons_zero, List.set_cons_succ])
        · go_simp
          have T := T.box4
          refine hK4.out _ _ (fun _ => T.so) ?_
          (try simp only [Act.put, List.setIfInBounds_toArray, List.set_cons_zero, List.set_cons_succ])
          refine Tw.opq T (C := fun w => AnyM _ _ _ _ _ _ _ _ _ w) ?_
          clear T
          intro wz T
          refine nextM 3 (by kernel_rfl) rfl (fun K3 hK3 => ?_)
          go_simp
          go_at_call 22
          refine (TwinHeader_calls A P cp pq b x0 chk its ps _ (Kd.C_below HC.out T.below) (Kd.C_below HP.out T.below) hib hpb).mono ?_
          rintro e3 wy ⟨A2, c2, A3, c3, rfl, hr3, hp3, hb3⟩
          have T := T.call3 hb3 hr3 hp3
          refine hK3.out _ _ (fun _ => T.so) ?_
          (try simp only [Act.put, List.setIfInBounds_toArray, List.set_cons_zero, List.set_cons_succ])
          refine nextM 6 (by kernel_rfl) rfl (fun K6 hK6 => ?_)
          rw [if_pos (by rfl)]
          refine wp_stR (ty := 76) rfl (T.o rfl).2 (sc rcv A1 ls.length c1 p q) rfl rfl row76 rfl rfl (fun wa P1 => ?_)
          refine hK6.out _ _ (fun _ => ⟨(P1.below T.below (T.o rfl).1).size, fun j hj _ => (P1.below T.below (T.o rfl).1).block j hj⟩) ?_
          show AnyM _ _ _ _ _ _ _ _ (Act.put _ none undef) _
          (try simp only [Act.put, List.setIfInBounds_toArray, List.set_cons_zero, List.set_cons_succ])
          refine nextM 7 (by kernel_rfl) rfl (fun K7 hK7 => ?_)
          rw [if_pos (by rfl)]
          refine wp_stR (ty := 28) rfl (P1.blk (T.h rfl).2 T.ne) (hc (.slice A2 its.length c2) b (.slice A3 ps.length c3) x0 chk) rfl rfl row28 rfl rfl (fun wb P2 => ?_)
          have E := T.fin P1 P2
          refine hK7.out _ _ (fun _ => ⟨E.below.size, fun j hj _ => E.below.block j hj⟩) ?_
          show AnyM _ _ _ _ _ _ _ _ (Act.put _ none undef) _
          (try simp only [Act.put, List.setIfInBounds_toArray, List.set_cons_zero, List.set_cons_succ])
          refine doneM (by kernel_rfl) ⟨rfl, (hQf _ _ _).2 ⟨_, _, A1, A2, A3, c1, c2, c3, ?_, E⟩⟩ _
          show Act.put _ none undef = _
          (try simp only [Act.put, List.setIfInBounds_toArray, List.set_cons_zero, List.set_cons_succ])
      · go_simp
        have T := T.box4
        refine hK4.out _ _ (fun _ => T.so) ?_
        (try simp only [Act.put, List.setIfInBounds_toArray, List.set_cons_zero, List.set_cons_succ])
        refine Tw.opq T (C := fun w => AnyM _ _ _ _ _ _ _ _ _ w) ?_
        clear T
        intro wz T
        refine nextM 1 (by kernel_rfl) rfl (fun K1 hK1 => ?_)
        go_simp
        go_at_call 49
        refine (TwinSecret_calls rcv p q LA cap ls _ (Kd.C_below HL.out T.below) hlb).mono ?_
        rintro e1 wx ⟨A1, c1, rfl, hr1, hb1⟩
        have T := T.call1 hb1 hr1
        refine hK1.out _ _ (fun _ => T.so) ?_
        (try simp only [Act.put, List.setIfInBounds_toArray, List.set_cons_zero, List.set_cons_succ])
        refine nextM 3 (by kernel_rfl) rfl (fun K3 hK3 => ?_)
        go_simp
        go_at_call 22
        refine (TwinHeader_calls A P cp pq b x0 chk its ps _ (Kd.C_below HC.out T.below) (Kd.C_below HP.out T.below) hib hpb).mono ?_
        rintro e3 wy ⟨A2, c2, A3, c3, rfl, hr3, hp3, hb3⟩
        have T := T.call3 hb3 hr3 hp3
        refine hK3.out _ _ (fun _ => T.so) ?_
        (try simp only [Act.put, List.setIfInBounds_toArray, List.set_cons_zero, List.set_cons_succ])
        refine nextM 6 (by kernel_rfl) rfl (fun K6 hK6 => ?_)
        rw [if_pos (by rfl)]
        refine wp_stR (ty := 76) rfl (T.o rfl).2 (sc rcv A1 ls.length c1 p q) rfl rfl row76 rfl rfl (fun wa P1 => ?_)
        refine hK6.out _ _ (fun _ => ⟨(P1.below T.below (T.o rfl).1).size, fun j hj _ => (P1.below T.below (T.o rfl).1).block j hj⟩) ?_
        show AnyM _ _ _ _ _ _ _ _ (Act.put _ none undef) _
        (try simp only [Act.put, List.setIfInBounds_toArray, List.set_cons_zero, List.set_cons_succ])
        refine nextM 7 (by kernel_rfl) rfl (fun K7 hK7 => ?_)
        rw [if_pos (by rfl)]
        refine wp_stR (ty := 28) rfl (P1.blk (T.h rfl).2 T.ne) (hc (.slice A2 its.length c2) b (.slice A3 ps.length c3) x0 chk) rfl rfl row28 rfl rfl (fun wb P2 => ?_)
        have E := T.fin P1 P2
        refine hK7.out _ _ (fun _ => ⟨E.below.size, fun j hj _ => E.below.block j hj⟩) ?_
        show AnyM _ _ _ _ _ _ _ _ (Act.put _ none undef) _
        (try simp only [Act.put, List.setIfInBounds_toArray, List.set_cons_zero, List.set_cons_succ])
        refine doneM (by kernel_rfl) ⟨rfl, (hQf _ _ _).2 ⟨_, _, A1, A2, A3, c1, c2, c3, ?_, E⟩⟩ _
        show Act.put _ none undef = _
        (try simp only [Act.put, List.setIfInBounds_toArray, List.set_cons_zero, List.set_cons_succ])
  · rintro a' w1 hq
    obtain ⟨g7, g8, A1, A2, A3, c1, c2, c3, rfl, hE⟩ := (hQf _ _ _).1 hq
    clear hq hQf
    (try simp only [Act.put, List.setIfInBounds_toArray, List.set_cons_zero, List.set_cons_succ])
    have C0 := Aside0.mk (blk_to B0.out hE.below); have C1 := Aside0.mk (blk_to B1.out hE.below); have C2 := Aside0.mk (blk_to B2.out hE.below)
    have CO := Aside0.mk hE.bo; have CH := Aside0.mk hE.bh
    have CL := Aside0.mk (Kd.C_below HL.out hE.below); have CC := Aside0.mk (Kd.C_below HC.out hE.below); have CP := Aside0.mk (Kd.C_below HP.out hE.below)
    have RS := Aside0.mk hE.rs; have RI := Aside0.mk hE.ri; have RP := Aside0.mk hE.rp
    have CB := Aside0.mk (BB.out.trans (hE.below.mono BB.out.size))
    have hb7 := hE.b7; have hb8 := hE.b8; have hcs := hE.below.size
    clear hE B0 B1 B2 BB BBs HW HL HC HP
    have HPA := Aside0.mk (plainA_of_R RI.out)
    go_wp2_with (first | ((with_reducible refine ldR rfl rfl C0.out ?_ ?_ ?_); rfl; exact row45) | ((with_reducible refine ldR rfl rfl CO.out ?_ ?_ ?_); rfl; exact row76) | ((with_reducible refine ldR rfl rfl CH.out ?_ ?_ ?_); rfl; exact row28))
    go_at_call 50
    refine (HO.out A1 A2 A3 c1 c2 c3 _ HPA.out (Kd.R_reads' RS.out).2.2 (Kd.R_reads' RI.out).2.2).mono ?_
    rintro e2 w2 ⟨rfl, hb2⟩
    obtain ⟨K, err⟩ := r
    have D0 := Aside0.mk (blk_to C0.out hb2); have D1 := Aside0.mk (blk_to C1.out hb2); have D2 := Aside0.mk (blk_to C2.out hb2); have DO := Aside0.mk (blk_to CO.out hb2); have DH := Aside0.mk (blk_to CH.out hb2)
    have DL := Aside0.mk (Kd.C_below CL.out hb2); have DC := Aside0.mk (Kd.C_below CC.out hb2); have DP := Aside0.mk (Kd.C_below CP.out hb2)
    have SS := Aside0.mk (Kd.R_below RS.out hb2); have SI := Aside0.mk (Kd.R_below RI.out hb2); have SP := Aside0.mk (Kd.R_below RP.out hb2)
    have DB := Aside0.mk (CB.out.trans (hb2.mono CB.out.size))
    have hds := hb2.size
    have h7 : g7 < w1.heap.size := (Array.getElem?_eq_some_iff.1 CO.out).1
    have h8 : g8 < w1.heap.size := (Array.getElem?_eq_some_iff.1 CH.out).1
    clear hb2 C0 C1 C2 CO CH CL CC CP RS RI RP CB HO
    go_wp2_with (first
      | (((with_reducible refine stR rfl rfl (newAt rfl) (kc K) ?_ ?_ ?_ ?_ ?_ ?_); rfl; rfl; exact row26; rfl; rfl; intro W2 P1); have E0 := Aside0.mk (P1.blk (blk_alloc D0.out _) (by omega)); have E1 := Aside0.mk (P1.blk (blk_alloc D1.out _) (by omega)); have E2 := Aside0.mk (P1.blk (blk_alloc D2.out _) (by omega)); have EO := Aside0.mk (P1.blk (blk_alloc DO.out _) (by omega)); have EH := Aside0.mk (P1.blk (blk_alloc DH.out _) (by omega)); have EK := Aside0.mk P1.at_; have EW := Aside0.mk (show Below w2.heap.size w2 W2 from P1.below ((Below.refl _ _).alloc (Nat.le_refl _) _) (Nat.le_refl _)); have hes : w2.heap.size + 1 = W2.heap.size := (by have := P1.size; simp at this; omega); clear P1)
      | ((with_reducible refine ldR rfl rfl E0.out ?_ ?_ ?_); rfl; exact row45) | ((with_reducible refine ldR rfl rfl E1.out ?_ ?_ ?_); rfl; exact row76) | ((with_reducible refine ldR rfl rfl E2.out ?_ ?_ ?_); rfl; exact row28))
    go_at_call 51
    refine (HRR.out LA A P cap cp pq _ (Kd.C_below DL.out EW.out) (Kd.C_below DC.out EW.out)).mono ?_
    rintro e3 w3 ⟨rfl, hb3⟩
    have EB := Aside0.mk (show Below w2.heap.size w2 w3 from EW.out.trans (hb3.mono EW.out.size))
    have F1 := Aside0.mk (blk_to E1.out hb3); have F2 := Aside0.mk (blk_to E2.out hb3); have FO := Aside0.mk (blk_to EO.out hb3); have FH := Aside0.mk (blk_to EH.out hb3); have FK := Aside0.mk (blk_to EK.out hb3)
    have hfs := hb3.size
    have hke := keq_refl K
    have hee : (err == err) = true := by simp
    clear hb3 E0 E1 E2 EO EH EK EW HRR D0 D1 D2 DO DH
    go_wp2_with (first
      | (((with_reducible refine stR rfl rfl (newAt rfl) (kc K) ?_ ?_ ?_ ?_ ?_ ?_); rfl; rfl; exact row26; rfl; rfl; intro W4 P2); have G1 := Aside0.mk (P2.blk (blk_alloc F1.out _) (by omega)); have G2 := Aside0.mk (P2.blk (blk_alloc F2.out _) (by omega)); have GO := Aside0.mk (P2.blk (blk_alloc FO.out _) (by omega)); have GH := Aside0.mk (P2.blk (blk_alloc FH.out _) (by omega)); have GK := Aside0.mk (P2.blk (blk_alloc FK.out _) (by omega)); have GL := Aside0.mk P2.at_; have GB := Aside0.mk (show Below w2.heap.size w2 W4 from P2.below (EB.out.alloc EB.out.size _) (by have := EB.out.size; omega)); clear P2)
      | ((with_reducible refine ldR rfl rfl GK.out ?_ ?_ ?_); rfl; exact row26) | ((with_reducible refine ldR rfl rfl GL.out ?_ ?_ ?_); rfl; exact row26)
      | ((with_reducible refine ldMg rfl GO.out 0 (sc rcv A1 ls.length c1 p q) ?_ ?_ ?_ ?_ ?_); rfl; rfl; exact row76; rfl) | ((with_reducible refine ldMg rfl G1.out 0 (sc rcv LA ls.length cap p q) ?_ ?_ ?_ ?_ ?_); rfl; rfl; exact row76; rfl))
    go_at_call 43
    have QL := Kd.C_below DL.out GB.out; have QS := (Kd.R_reads' (Kd.R_below SS.out GB.out)).2.2
    refine (SameSecret_same rcv p q A1 LA c1 cap ls _ QS QL).mono ?_
    rintro e4 w4 ⟨rfl, hb4⟩
    have H2 := Aside0.mk (blk_to G2.out hb4); have HH := Aside0.mk (blk_to GH.out hb4)
    have HB := Aside0.mk (show Below w2.heap.size w2 w4 from GB.out.trans (hb4.mono GB.out.size))
    clear hb4 QL QS
    go_wp2_with (first
      | ((with_reducible refine ldMg rfl HH.out 0 (hc (.slice A2 its.length c2) b (.slice A3 ps.length c3) x0 chk) ?_ ?_ ?_ ?_ ?_); rfl; rfl; exact row28; rfl) | ((with_reducible refine ldMg rfl H2.out 0 (hc (.slice A its.length cp) b (.slice P ps.length pq) x0 chk) ?_ ?_ ?_ ?_ ?_); rfl; rfl; exact row28; rfl))
    go_at_call 25
    have QI := (Kd.R_reads' (Kd.R_below SI.out HB.out)).2.2; have QP := (Kd.R_reads' (Kd.R_below SP.out HB.out)).2.2
    refine (SameHeader_same A2 A A3 P c2 cp c3 pq b x0 chk its ps _ QI (Kd.C_below DC.out HB.out) QP (Kd.C_below DP.out HB.out)).mono ?_
    rintro e5 w5 ⟨rfl, hb5⟩
    have hb := (DB.out.trans (HB.out.mono DB.out.size)).trans (hb5.mono (DB.out.trans (HB.out.mono DB.out.size)).size)
    go_wp2
    go_ret
    exact ⟨rfl, hb⟩
end Go.Proofs.Ytafhimeoijmolaa.K
