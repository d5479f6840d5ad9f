/- Boards, cuts and leaves. -/
import Derived.Test.YteafdpbjocdbbaaGreatDoorLU
import Derived.Test.YteafdpbjocdbbaaGreatDoorLD
set_option linter.all false
section
set_option maxRecDepth 100000
namespace Go.A.Pk
variable {T : Nat → Option AFunc}
theorem a_iaddrA {base : Nat} {h : Heap} {e : Env} {len size b o i : Nat} {k : IntKind} {x y : Operand} (hx : ev h e x = some (.pointer (some ⟨b, o, none⟩))) (hy : ev h e y = some (.int k (i : Nat))) (hi : i < len) : aop h base e (.iaddrA len size x y) = some (.val (.pointer (some ⟨b, o + i * size, none⟩)) h) := by
  have e0 : (.int k (i : Nat) : Value) = .int k (Int.ofNat i) := rfl
  rw [e0] at hy
  simp only [aop, hx, hy, nblt_of hi, cond_true]
def nodeV (x : Nat × Nat) : Value := .agg #[.int .u8 x.1, .int .i64 x.2]
def boardV (x : Nat × Nat) : Value := .agg #[.int .i64 x.1, .int .i64 x.2]
structure Yld (T : Nat → Option AFunc) (lo N l : Nat) (V : Nat × Nat → Value) (all : List (Nat × Nat)) (P : List (Nat × Nat) → Heap → Prop) : Prop where
  yields : ∀ done x H, x ∈ all → Rdy H → N ≤ H.next → P done H → FW T (.yield l) [V x] H fun r H' => r = .ret (.bool true) ∧ (∀ z ∈ H'.log, lo ≤ z ∧ z < N) ∧ P (done ++ [x]) H'
  stable : ∀ done H H', P done H → N ≤ H'.next → (∀ x, x < N → H'.get x = H.get x) → P done H'
theorem Yld.call (hp : primAS T) {lo N l : Nat} {V : Nat × Nat → Value} {all : List (Nat × Nat)} {P : List (Nat × Nat) → Heap → Prop} (Y : Yld T lo N l V all P) {base : Nat} {Q : XQ} {e : Env} {ds : Dfs} {h : Heap} {K : Env → Dfs → Heap → Prop} {dst : Option Nat} {done : List (Nat × Nat)} {x : Nat × Nat} (hx : x ∈ all) (hw : WF h) (hlo : lo ≤ h.next) (hN : N ≤ h.next) (hP : P done h)
    (hK : ∀ h', Lk lo h h' → (∀ z, N ≤ z → z < h.next → h'.get z = h.get z) → P (done ++ [x]) h' → K (dstE e dst (.bool true)) ds h') : FW T (.yield l) [V x] { h with log := [] } (KO K Q base dst e ds h.log) := by
  refine FW.mono' (FW.withAS hp (Y.yields done x _ hx (.of hw) hN (Y.stable _ _ _ hP hN fun _ _ => rfl)) rfl) ?_
  rintro r h2 ⟨hA, rfl, hl, hq⟩
  have hk : Lk lo { h with log := [] } h2 := Lk.of_as hA hlo fun z hz => (hl z hz).1
  refine ⟨hK _ hk.call (fun z h1 h3 => ?_) (Y.stable _ _ _ hq (Nat.le_trans hN hA.next) fun _ _ => rfl)⟩
  exact hA.same z h3 h3 (lhas_false fun hm => by have := (hl z hm).2; omega)
def row (c n : Nat) : List (Nat × Nat) := (List.range n).map fun i => (c, i + 1)
theorem row_succ (c n : Nat) : row c (n + 1) = row c n ++ [(c, n + 1)] := by simp [row, List.range_succ]
theorem row_mem {c n j : Nat} (hj : j < n) : (c, j + 1) ∈ row c n := by simp [row, hj]
def boardsL : Nat → Nat → List (Nat × Nat)
  | 0, _ => []
  | w + 1, h => boardsL w h ++ row (w + 1) h
theorem boardsL_mem {w h i j : Nat} (hi : i < w) (hj : j < h) : (i + 1, j + 1) ∈ boardsL w h := by
  induction w with
  | zero => omega
  | succ w ih =>
    simp only [boardsL, List.mem_append]
    by_cases h1 : i < w
    · exact .inl (ih h1)
    · obtain rfl : i = w := by omega
      exact .inr (row_mem hj)
def cutsL (a b : Nat) : List (Nat × Nat) := row 3 (a - 1) ++ row 4 (b - 1)
theorem unit_gc {h h1 h2 : Heap} {N : Nat} {P : List (Nat × Nat) → Heap → Prop} {all : List (Nat × Nat)} {v : Value} (hs : ∀ done H H', P done H → N ≤ H'.next → (∀ x, x < N → H'.get x = H.get x) → P done H') (hN : N ≤ h.next) (hn : h.next ≤ h2.next) (ha : ∀ x, x < h.next → h2.get x = h1.get x) (q : v = .tuple #[] ∧ P all h1) : v = .tuple #[] ∧ P all h2 :=
  ⟨q.1, hs _ _ _ q.2 (Nat.le_trans hN hn) fun x hx => ha x (by omega)⟩
set_option maxHeartbeats 4000000 in
theorem boards136 (hp : primAS T) (hf : T 136 = some f136) {h : Heap} (hr : Rdy h) {bw bh l N lo w ht : Nat} {P : List (Nat × Nat) → Heap → Prop} (hN : N ≤ h.next) (hlo : lo ≤ h.next) (hw16 : w < 1000) (hh16 : ht < 1000) (Y : Yld T lo N l boardV (boardsL w ht) P)
    (hbw : ∀ d H, P d H → H.get bw = some (.cells [.int .i64 w] true 1)) (hbh : ∀ d H, P d H → H.get bh = some (.cells [.int .i64 ht] true 1)) (h0 : P [] h) :
    Gr T 136 [.func (.yield l) #[] #[], .pointer (some ⟨bw, 0, none⟩), .pointer (some ⟨bh, 0, none⟩)] h lo fun v h' => v = .tuple #[] ∧ P (boardsL w ht) h' := by
  refine Gr.of hp hf hlo (fun v h1 h2 _ hn ha q => unit_gc Y.stable hN hn ha q) ?_
  refine wE_seq ?_; refine wE_region ?_; refine wO_val (a_mov (by exact rfl)) ?_; refine wO_nil ?_; refine kR_k (by simp only [keepE, dstE, geT, paramsE, cond_true, cond_false, Nat.beq]; exact rfl) ?_; refine kS_n ?_; refine wE_block ?_
  refine wE_loop (fun k e ds h' => ∃ i : Nat, i ≤ w ∧ k = w - i ∧ e = [(0, .func (.yield l) #[] #[]), (1, .pointer (some ⟨bw, 0, none⟩)), (2, .pointer (some ⟨bh, 0, none⟩)), (4, .int .i64 (i + 1 : Nat))] ∧ ds = [] ∧ Lk lo h h' ∧ P (boardsL i ht) h')
    ⟨0, Nat.zero_le _, rfl, rfl, rfl, .refl _ _, h0⟩ ?_
  rintro k e ds h' ⟨i, hi, rfl, rfl, rfl, hk, hP⟩
  have g1 := hbw _ _ hP
  by_cases hlt : i < w
  · refine wE_seq ?_; refine wE_seq ?_; refine wE_region ?_; refine wO_val (a_mov (by exact rfl)) ?_; refine wO_val (a_load (by exact rfl) (by assumption) (by exact rfl)) ?_; refine wO_val (a_num (by exact rfl) (by exact rfl) (by exact m_geqT (by omega))) ?_; refine wO_nil ?_; refine kR_k (by simp only [keepE, dstE, geT, paramsE, cond_true, cond_false, Nat.beq]; exact rfl) ?_; refine kS_n ?_
    refine wE_true (by exact rfl) ?_; refine wE_skip ?_; refine kS_n ?_; refine wE_seq ?_; refine wE_block ?_; refine wE_seq ?_; refine wE_region ?_; refine wO_val (a_mov (by exact rfl)) ?_; refine wO_nil ?_; refine kR_k (by simp only [keepE, dstE, geT, paramsE, cond_true, cond_false, Nat.beq]; exact rfl) ?_; refine kS_n ?_; refine wE_block ?_
    refine wE_loop (fun k e ds h'' => ∃ j : Nat, j ≤ ht ∧ k = ht - j ∧ e = [(0, .func (.yield l) #[] #[]), (1, .pointer (some ⟨bw, 0, none⟩)), (2, .pointer (some ⟨bh, 0, none⟩)), (4, .int .i64 (i + 1 : Nat)), (5, .int .i64 (j + 1 : Nat))] ∧ ds = [] ∧ Lk lo h h'' ∧ P (boardsL i ht ++ row (i + 1) j) h'')
      ⟨0, Nat.zero_le _, rfl, rfl, rfl, hk, by simpa [row] using hP⟩ ?_
    clear g1 hP hk h'
    rintro k e ds h' ⟨j, hj, rfl, rfl, rfl, hk, hP⟩
    have g2 := hbh _ _ hP
    by_cases hjt : j < ht
    · refine wE_seq ?_; refine wE_seq ?_; refine wE_region ?_; refine wO_val (a_mov (by exact rfl)) ?_; refine wO_val (a_load (by exact rfl) (by assumption) (by exact rfl)) ?_; refine wO_val (a_num (by exact rfl) (by exact rfl) (by exact m_geqT (by omega))) ?_; refine wO_nil ?_; refine kR_k (by simp only [keepE, dstE, geT, paramsE, cond_true, cond_false, Nat.beq]; exact rfl) ?_; refine kS_n ?_
      refine wE_true (by exact rfl) ?_; refine wE_skip ?_; refine kS_n ?_; refine wE_seq ?_; refine wE_block ?_; refine wE_seq ?_; refine wE_region ?_; refine wO_val (a_mov (by exact rfl)) ?_; refine wO_val (a_mov (by exact rfl)) ?_; refine wO_val (a_mov (by exact rfl)) ?_; refine wO_val (a_build (by exact rfl)) ?_
      refine wO_call (fn := .yield l) (args := [boardV (i + 1, j + 1)]) (by rfl) ?_
      refine Y.call hp (boardsL_mem hlt hjt) (hk.wf hr.wf) (Nat.le_trans hlo hk.next) (Nat.le_trans hN hk.next) hP ?_
      intro h2 hk2 _ hP2
      rw [List.append_assoc, ← row_succ] at hP2
      refine wO_val (a_not (by exact rfl)) ?_; refine wO_nil ?_; refine kR_k (by simp only [keepE, dstE, geT, paramsE, cond_true, cond_false, Nat.beq]; exact rfl) ?_; refine kS_n ?_; refine wE_false (by exact rfl) ?_; refine wE_skip ?_; refine kB_n ?_; refine kS_n ?_; refine wE_region ?_; refine wO_val (a_mov (by exact rfl)) ?_
      refine wO_val (a_num (by exact rfl) (by exact rfl) (by exact m_inc (by omega))) ?_; refine wO_val (a_mov (by exact rfl)) ?_; refine wO_nil ?_; refine kR_k (by simp only [keepE, dstE, geT, paramsE, cond_true, cond_false, Nat.beq]; exact rfl) ?_; refine kS_n ?_
      exact ⟨ht - (j + 1), by omega, j + 1, by omega, rfl, rfl, rfl, hk.trans hk2, hP2⟩
    · obtain rfl : j = ht := by omega
      refine wE_seq ?_; refine wE_seq ?_; refine wE_region ?_; refine wO_val (a_mov (by exact rfl)) ?_; refine wO_val (a_load (by exact rfl) (by assumption) (by exact rfl)) ?_; refine wO_val (a_num (by exact rfl) (by exact rfl) (by exact m_geqF (by omega))) ?_; refine wO_nil ?_; refine kR_k (by simp only [keepE, dstE, geT, paramsE, cond_true, cond_false, Nat.beq]; exact rfl) ?_; refine kS_n ?_
      refine wE_false (by exact rfl) ?_; refine wE_exit ?_; refine kS_e ?_; refine kS_e ?_; refine kB_e ?_; refine kB_n ?_; refine kS_n ?_; refine wE_region ?_; refine wO_val (a_mov (by exact rfl)) ?_; refine wO_val (a_num (by exact rfl) (by exact rfl) (by exact m_inc (by omega))) ?_; refine wO_val (a_mov (by exact rfl)) ?_; refine wO_nil ?_
      refine kR_k (by simp only [keepE, dstE, geT, paramsE, cond_true, cond_false, Nat.beq]; exact rfl) ?_; refine kS_n ?_
      exact ⟨w - (i + 1), by omega, i + 1, by omega, rfl, rfl, rfl, hk, hP⟩
  · obtain rfl : i = w := by omega
    refine wE_seq ?_; refine wE_seq ?_; refine wE_region ?_; refine wO_val (a_mov (by exact rfl)) ?_; refine wO_val (a_load (by exact rfl) (by assumption) (by exact rfl)) ?_; refine wO_val (a_num (by exact rfl) (by exact rfl) (by exact m_geqF (by omega))) ?_; refine wO_nil ?_; refine kR_k (by simp only [keepE, dstE, geT, paramsE, cond_true, cond_false, Nat.beq]; exact rfl) ?_; refine kS_n ?_
    refine wE_false (by exact rfl) ?_; refine wE_exit ?_; refine kS_e ?_; refine kS_e ?_; refine kB_e ?_
    exact endG_end (hk.log (by rw [hr.log]; exact LogGe.nil _)) rfl ⟨rfl, hP⟩
end Go.A.Pk
end
section
set_option maxRecDepth 100000
namespace Go.A.Pk
variable {T : Nat → Option AFunc}
theorem a_idxA {base : Nat} {h : Heap} {e : Env} {len size i : Nat} {k : IntKind} {x y : Operand} {cs : Array Value} {v : Value} (hx : ev h e x = some (.agg cs)) (hy : ev h e y = some (.int k (i : Nat))) (hi : i < len) (hv : lget cs.toList (i * size) = some v) : aop h base e (.idxA len size none x y) = some (.val v h) := by
  have e0 : (.int k (i : Nat) : Value) = .int k (Int.ofNat i) := rfl
  rw [e0] at hy
  simp only [aop, hx, hy, nblt_of hi, cond_true, hv, bindV]
theorem cuts_mem3 {a b j : Nat} (hj : j < a - 1) : (3, j + 1) ∈ cutsL a b := List.mem_append_left _ (row_mem hj)
theorem cuts_mem4 {a b j : Nat} (hj : j < b - 1) : (4, j + 1) ∈ cutsL a b := List.mem_append_right _ (row_mem hj)
set_option maxHeartbeats 8000000 in
theorem cuts141 (hp : primAS T) (hf : T 141 = some f141) {h : Heap} (hr : Rdy h) {bx l N lo a b : Nat} {P : List (Nat × Nat) → Heap → Prop} (hN : N ≤ h.next) (hlo : lo ≤ h.next) (ha : a < 1000) (hb : b < 1000) (Y : Yld T lo N l nodeV (cutsL a b) P)
    (hbx : ∀ d H, P d H → H.get bx = some (.cells [.int .i64 a, .int .i64 b] true 1)) (h0 : P [] h) :
    Gr T 141 [.func (.yield l) #[] #[], .pointer (some ⟨bx, 0, none⟩)] h lo fun v h' => v = .tuple #[] ∧ P (cutsL a b) h' := by
  refine Gr.of hp hf hlo (fun v h1 h2 _ hn ha q => unit_gc Y.stable hN hn ha q) ?_
  refine wE_seq ?_; refine wE_region ?_; refine wO_val (a_build (by exact rfl)) ?_; refine wO_val (a_mov (by exact rfl)) ?_; refine wO_nil ?_; refine kR_k (by simp only [keepE, dstE, geT, paramsE, cond_true, cond_false, Nat.beq]; exact rfl) ?_; refine kS_n ?_; refine wE_block ?_
  refine wE_loop (fun k e ds h' => ∃ i : Nat, i ≤ 2 ∧ k = 2 - i ∧ e = [(0, .func (.yield l) #[] #[]), (1, .pointer (some ⟨bx, 0, none⟩)), (6, .agg (List.toArray [.int .u8 3, .int .u8 4])), (7, .int .i64 i)] ∧ ds = [] ∧ Lk lo h h' ∧ P (if i = 0 then [] else if i = 1 then row 3 (a - 1) else cutsL a b) h')
    ⟨0, Nat.zero_le _, rfl, rfl, rfl, .refl _ _, h0⟩ ?_
  rintro k e ds h' ⟨i, hi, rfl, rfl, rfl, hk, hP⟩
  obtain rfl | rfl | rfl : i = 0 ∨ i = 1 ∨ i = 2 := by omega
  · replace hP : P ([]) h' := hP
    refine wE_seq ?_; refine wE_region ?_; refine wO_val (a_num (by exact rfl) (by exact rfl) (by exact m_geqT (by omega))) ?_; refine wO_nil ?_; refine kR_k (by simp only [keepE, dstE, geT, paramsE, cond_true, cond_false, Nat.beq]; exact rfl) ?_; refine kS_n ?_; refine wE_seq ?_; refine wE_true (by exact rfl) ?_; refine wE_skip ?_; refine kS_n ?_; refine wE_seq ?_; refine wE_block ?_; refine wE_seq ?_
    refine wE_region ?_; refine wO_val (a_mov (by exact rfl)) ?_
    refine wO_val (a_idxA (i := 0) (v := .int .u8 3) (by exact rfl) (by exact rfl) (by omega) rfl) ?_
    refine wO_val (a_mov (by exact rfl)) ?_; refine wO_val (a_mov (by exact rfl)) ?_; refine wO_nil ?_; refine kR_k (by simp only [keepE, dstE, geT, paramsE, cond_true, cond_false, Nat.beq]; exact rfl) ?_; refine kS_n ?_; refine wE_seq ?_; refine wE_region ?_; refine wO_val (a_mov (by exact rfl)) ?_; refine wO_nil ?_
    refine kR_k (by simp only [keepE, dstE, geT, paramsE, cond_true, cond_false, Nat.beq]; exact rfl) ?_; refine kS_n ?_; refine wE_block ?_
    refine wE_loop (fun k e ds h'' => ∃ j : Nat, j ≤ a - 1 ∧ k = a - 1 - j ∧ e = [(0, .func (.yield l) #[] #[]), (1, .pointer (some ⟨bx, 0, none⟩)), (3, .int .i64 (0 : Nat)), (4, .int .u8 3), (5, .int .i64 (j + 1 : Nat)), (6, .agg (List.toArray [.int .u8 3, .int .u8 4])), (7, .int .i64 (0 : Nat))] ∧ ds = [] ∧ Lk lo h h'' ∧ P (row 3 j) h'')
      ⟨0, Nat.zero_le _, rfl, rfl, rfl, hk, by simpa [row] using hP⟩ ?_
    clear hP hk h'
    rintro k e ds h' ⟨j, hj, rfl, rfl, rfl, hk, hP⟩
    have g2 := hbx _ _ hP
    by_cases hjt : j < a - 1
    · refine wE_seq ?_; refine wE_seq ?_; refine wE_region ?_; refine wO_val (a_mov (by exact rfl)) ?_; refine wO_val (a_mov (by exact rfl)) ?_; refine wO_val (a_iaddrA (i := 0) (by exact rfl) (by exact rfl) (by omega)) ?_; refine wO_val (a_load (by exact rfl) (by assumption) (by exact rfl)) ?_; refine wO_val (a_num (by exact rfl) (by exact rfl) (by exact m_geqT (by omega))) ?_; refine wO_nil ?_
      refine kR_k (by simp only [keepE, dstE, geT, paramsE, cond_true, cond_false, Nat.beq]; exact rfl) ?_; refine kS_n ?_; refine wE_true (by exact rfl) ?_; refine wE_skip ?_; refine kS_n ?_; refine wE_seq ?_; refine wE_block ?_; refine wE_seq ?_; refine wE_region ?_; refine wO_val (a_mov (by exact rfl)) ?_; refine wO_val (a_mov (by exact rfl)) ?_; refine wO_val (a_mov (by exact rfl)) ?_
      refine wO_val (a_build (by exact rfl)) ?_
      refine wO_call (fn := .yield l) (args := [nodeV (3, j + 1)]) (by rfl) ?_
      refine Y.call hp (cuts_mem3 hjt) (hk.wf hr.wf) (Nat.le_trans hlo hk.next) (Nat.le_trans hN hk.next) hP ?_
      intro h2 hk2 _ hP2
      rw [← row_succ] at hP2
      refine wO_val (a_not (by exact rfl)) ?_; refine wO_nil ?_; refine kR_k (by simp only [keepE, dstE, geT, paramsE, cond_true, cond_false, Nat.beq]; exact rfl) ?_; refine kS_n ?_; refine wE_false (by exact rfl) ?_; refine wE_skip ?_; refine kB_n ?_; refine kS_n ?_; refine wE_region ?_; refine wO_val (a_mov (by exact rfl)) ?_
      refine wO_val (a_num (by exact rfl) (by exact rfl) (by exact m_inc (by omega))) ?_; refine wO_val (a_mov (by exact rfl)) ?_; refine wO_nil ?_; refine kR_k (by simp only [keepE, dstE, geT, paramsE, cond_true, cond_false, Nat.beq]; exact rfl) ?_; refine kS_n ?_
      exact ⟨a - 1 - (j + 1), by omega, j + 1, by omega, rfl, rfl, rfl, hk.trans hk2, hP2⟩
    · obtain rfl : j = a - 1 := by omega
      refine wE_seq ?_; refine wE_seq ?_; refine wE_region ?_; refine wO_val (a_mov (by exact rfl)) ?_; refine wO_val (a_mov (by exact rfl)) ?_; refine wO_val (a_iaddrA (i := 0) (by exact rfl) (by exact rfl) (by omega)) ?_; refine wO_val (a_load (by exact rfl) (by assumption) (by exact rfl)) ?_; refine wO_val (a_num (by exact rfl) (by exact rfl) (by exact m_geqF (by omega))) ?_; refine wO_nil ?_
      refine kR_k (by simp only [keepE, dstE, geT, paramsE, cond_true, cond_false, Nat.beq]; exact rfl) ?_; refine kS_n ?_; refine wE_false (by exact rfl) ?_; refine wE_exit ?_; refine kS_e ?_; refine kS_e ?_; refine kB_e ?_; refine kB_n ?_; refine kS_n ?_; refine wE_region ?_; refine wO_val (a_num (by exact rfl) (by exact rfl) (by exact m_inc (by omega))) ?_; refine wO_val (a_mov (by exact rfl)) ?_
      refine wO_nil ?_; refine kR_k (by simp only [keepE, dstE, geT, paramsE, cond_true, cond_false, Nat.beq]; exact rfl) ?_; refine kS_n ?_
      exact ⟨2 - 1, by omega, 1, by omega, rfl, rfl, rfl, hk, hP⟩
  · replace hP : P (row 3 (a - 1)) h' := hP
    refine wE_seq ?_; refine wE_region ?_; refine wO_val (a_num (by exact rfl) (by exact rfl) (by exact m_geqT (by omega))) ?_; refine wO_nil ?_; refine kR_k (by simp only [keepE, dstE, geT, paramsE, cond_true, cond_false, Nat.beq]; exact rfl) ?_; refine kS_n ?_; refine wE_seq ?_; refine wE_true (by exact rfl) ?_; refine wE_skip ?_; refine kS_n ?_; refine wE_seq ?_; refine wE_block ?_; refine wE_seq ?_
    refine wE_region ?_; refine wO_val (a_mov (by exact rfl)) ?_
    refine wO_val (a_idxA (i := 1) (v := .int .u8 4) (by exact rfl) (by exact rfl) (by omega) rfl) ?_
    refine wO_val (a_mov (by exact rfl)) ?_; refine wO_val (a_mov (by exact rfl)) ?_; refine wO_nil ?_; refine kR_k (by simp only [keepE, dstE, geT, paramsE, cond_true, cond_false, Nat.beq]; exact rfl) ?_; refine kS_n ?_; refine wE_seq ?_; refine wE_region ?_; refine wO_val (a_mov (by exact rfl)) ?_; refine wO_nil ?_
    refine kR_k (by simp only [keepE, dstE, geT, paramsE, cond_true, cond_false, Nat.beq]; exact rfl) ?_; refine kS_n ?_; refine wE_block ?_
    refine wE_loop (fun k e ds h'' => ∃ j : Nat, j ≤ b - 1 ∧ k = b - 1 - j ∧ e = [(0, .func (.yield l) #[] #[]), (1, .pointer (some ⟨bx, 0, none⟩)), (3, .int .i64 (1 : Nat)), (4, .int .u8 4), (5, .int .i64 (j + 1 : Nat)), (6, .agg (List.toArray [.int .u8 3, .int .u8 4])), (7, .int .i64 (1 : Nat))] ∧ ds = [] ∧ Lk lo h h'' ∧ P (row 3 (a - 1) ++ row 4 j) h'')
      ⟨0, Nat.zero_le _, rfl, rfl, rfl, hk, by simpa [row] using hP⟩ ?_
    clear hP hk h'
    rintro k e ds h' ⟨j, hj, rfl, rfl, rfl, hk, hP⟩
    have g2 := hbx _ _ hP
    by_cases hjt : j < b - 1
    · refine wE_seq ?_; refine wE_seq ?_; refine wE_region ?_; refine wO_val (a_mov (by exact rfl)) ?_; refine wO_val (a_mov (by exact rfl)) ?_; refine wO_val (a_iaddrA (i := 1) (by exact rfl) (by exact rfl) (by omega)) ?_; refine wO_val (a_load (by exact rfl) (by assumption) (by exact rfl)) ?_; refine wO_val (a_num (by exact rfl) (by exact rfl) (by exact m_geqT (by omega))) ?_; refine wO_nil ?_
      refine kR_k (by simp only [keepE, dstE, geT, paramsE, cond_true, cond_false, Nat.beq]; exact rfl) ?_; refine kS_n ?_; refine wE_true (by exact rfl) ?_; refine wE_skip ?_; refine kS_n ?_; refine wE_seq ?_; refine wE_block ?_; refine wE_seq ?_; refine wE_region ?_; refine wO_val (a_mov (by exact rfl)) ?_; refine wO_val (a_mov (by exact rfl)) ?_; refine wO_val (a_mov (by exact rfl)) ?_
      refine wO_val (a_build (by exact rfl)) ?_
      refine wO_call (fn := .yield l) (args := [nodeV (4, j + 1)]) (by rfl) ?_
      refine Y.call hp (cuts_mem4 hjt) (hk.wf hr.wf) (Nat.le_trans hlo hk.next) (Nat.le_trans hN hk.next) hP ?_
      intro h2 hk2 _ hP2
      rw [List.append_assoc, ← row_succ] at hP2
      refine wO_val (a_not (by exact rfl)) ?_; refine wO_nil ?_; refine kR_k (by simp only [keepE, dstE, geT, paramsE, cond_true, cond_false, Nat.beq]; exact rfl) ?_; refine kS_n ?_; refine wE_false (by exact rfl) ?_; refine wE_skip ?_; refine kB_n ?_; refine kS_n ?_; refine wE_region ?_; refine wO_val (a_mov (by exact rfl)) ?_
      refine wO_val (a_num (by exact rfl) (by exact rfl) (by exact m_inc (by omega))) ?_; refine wO_val (a_mov (by exact rfl)) ?_; refine wO_nil ?_; refine kR_k (by simp only [keepE, dstE, geT, paramsE, cond_true, cond_false, Nat.beq]; exact rfl) ?_; refine kS_n ?_
      exact ⟨b - 1 - (j + 1), by omega, j + 1, by omega, rfl, rfl, rfl, hk.trans hk2, hP2⟩
    · obtain rfl : j = b - 1 := by omega
      refine wE_seq ?_; refine wE_seq ?_; refine wE_region ?_; refine wO_val (a_mov (by exact rfl)) ?_; refine wO_val (a_mov (by exact rfl)) ?_; refine wO_val (a_iaddrA (i := 1) (by exact rfl) (by exact rfl) (by omega)) ?_; refine wO_val (a_load (by exact rfl) (by assumption) (by exact rfl)) ?_; refine wO_val (a_num (by exact rfl) (by exact rfl) (by exact m_geqF (by omega))) ?_; refine wO_nil ?_
      refine kR_k (by simp only [keepE, dstE, geT, paramsE, cond_true, cond_false, Nat.beq]; exact rfl) ?_; refine kS_n ?_; refine wE_false (by exact rfl) ?_; refine wE_exit ?_; refine kS_e ?_; refine kS_e ?_; refine kB_e ?_; refine kB_n ?_; refine kS_n ?_; refine wE_region ?_; refine wO_val (a_num (by exact rfl) (by exact rfl) (by exact m_inc (by omega))) ?_; refine wO_val (a_mov (by exact rfl)) ?_
      refine wO_nil ?_; refine kR_k (by simp only [keepE, dstE, geT, paramsE, cond_true, cond_false, Nat.beq]; exact rfl) ?_; refine kS_n ?_
      exact ⟨2 - 2, by omega, 2, by omega, rfl, rfl, rfl, hk, hP⟩
  · replace hP : P (cutsL a b) h' := hP
    refine wE_seq ?_; refine wE_region ?_; refine wO_val (a_num (by exact rfl) (by exact rfl) (by exact m_geqF (by omega))) ?_; refine wO_nil ?_; refine kR_k (by simp only [keepE, dstE, geT, paramsE, cond_true, cond_false, Nat.beq]; exact rfl) ?_; refine kS_n ?_; refine wE_seq ?_; refine wE_false (by exact rfl) ?_; refine wE_exit ?_; refine kS_e ?_; refine kS_e ?_; refine kB_e ?_
    exact endG_end (hk.log (by rw [hr.log]; exact LogGe.nil _)) rfl ⟨rfl, hP⟩
def leafAt (k : Kd) (i a b : Nat) : List (Nat × Nat) := (if (a : Int) = k.w ∧ (b : Int) = k.h then [(1, i)] else []) ++ (if k.turn = true ∧ (a : Int) = k.h ∧ (b : Int) = k.w then [(2, i)] else [])
def leavesL (a b : Nat) : List Kd → Nat → List (Nat × Nat)
  | [], _ => []
  | k :: l, i => leafAt k i a b ++ leavesL a b l (i + 1)
theorem leavesL_append (a b : Nat) : ∀ (l m : List Kd) (i : Nat), leavesL a b (l ++ m) i = leavesL a b l i ++ leavesL a b m (i + l.length)
  | [], m, i => by simp [leavesL]
  | k :: l, m, i => by
    simp only [List.cons_append, leavesL, List.append_assoc, List.length_cons]
    rw [leavesL_append a b l m (i + 1), show i + 1 + l.length = i + (l.length + 1) by omega]
theorem leaves_succ {a b : Nat} {l : List Kd} {i : Nat} {k : Kd} (h : l[i]? = some k) : leavesL a b (l.take (i + 1)) 0 = leavesL a b (l.take i) 0 ++ leafAt k i a b := by
  have hi : i < l.length := (List.getElem?_eq_some_iff.1 h).1
  rw [List.take_add_one, h, leavesL_append]
  simp only [Option.toList, leavesL, List.append_nil, List.length_take, Nat.min_eq_left (Nat.le_of_lt hi), Nat.zero_add]
theorem leaves_mem {a b : Nat} {l : List Kd} {i : Nat} {k : Kd} (h : l[i]? = some k) : ∀ x ∈ leafAt k i a b, x ∈ leavesL a b l 0 := by
  intro x hx
  have h1 : leavesL a b l 0 = leavesL a b (l.take (i + 1)) 0 ++ leavesL a b (l.drop (i + 1)) (0 + (l.take (i + 1)).length) := by
    rw [← leavesL_append, List.take_append_drop]
  rw [h1, leaves_succ h]
  simp [hx]
theorem leaves2 (x y z u : Int) : leavesEq [.i .i64, .i .i64] [.int .i64 x, .int .i64 y] [.int .i64 z, .int .i64 u] = some (decide (x = z ∧ y = u)) := by
  by_cases h1 : x = z
  · by_cases h2 : y = u
    · subst h1; subst h2
      simp [leavesEq, leafEq]
    · have e1 : (x == z) = true := by simpa using h1
      have e2 : (y == u) = false := by simpa using h2
      simp only [leavesEq, leafEq, ↓reduceIte, e1, e2, h2, and_false, decide_false]
  · by_cases h2 : y = u
    · have e1 : (x == z) = false := by simpa using h1
      have e2 : (y == u) = true := by simpa using h2
      simp only [leavesEq, leafEq, ↓reduceIte, e1, e2, h1, false_and, decide_false]
    · have e1 : (x == z) = false := by simpa using h1
      have e2 : (y == u) = false := by simpa using h2
      simp only [leavesEq, leafEq, ↓reduceIte, e1, e2, h1, false_and, decide_false]
end Go.A.Pk
end
section
set_option maxRecDepth 100000
namespace Go.A.Pk
variable {T : Nat → Option AFunc}
theorem WF.get_lt {h : Heap} (w : WF h) {x : Nat} {o : AObj} (hx : h.get x = some o) : x < h.next := by
  refine w.lt x (Classical.byContradiction fun hn => ?_)
  have := getO_none hn
  rw [show getO h.objs x = h.get x from rfl, hx] at this
  cases this
set_option maxHeartbeats 8000000 in
theorem leaves140 (hp : primAS T) (hf : T 140 = some f140) {h : Heap} (hr : Rdy h) {pb bb px l' N lo a b n c : Nat} {sa : Option Addr} {l : List Kd} {v1 v2 : Value} {P : List (Nat × Nat) → Heap → Prop} (hN : N ≤ h.next) (hlo : lo ≤ h.next) (hn : n < 1000) (Y : Yld T lo N l' nodeV (leavesL a b l 0) P)
    (hpb : h.get pb = some (.cells [.pointer (some ⟨bb, 0, none⟩)] true 1)) (hbb : h.get bb = some (.cells [.slice sa n c, v1, v2] true 1))
    (hks : ∀ d H, P d H → SliceOf H 5 (.slice sa n c) n (kcs l)) (hpx : ∀ d H, P d H → H.get px = some (.cells [.int .i64 a, .int .i64 b] true 1)) (h0 : P [] h) :
    Gr T 140 [.func (.yield l') #[] #[], .pointer (some ⟨pb, 0, none⟩), .pointer (some ⟨px, 0, none⟩)] h lo fun v h' => v = .tuple #[] ∧ P (leavesL a b l 0) h' := by
  refine Gr.of hp hf hlo (fun v h1 h2 _ hn ha q => unit_gc Y.stable hN hn ha q) ?_
  have hlen : l.length = n := by have := (hks _ _ h0).len; rw [kcs_length] at this; omega
  refine wE_seq ?_; refine wE_region ?_; refine wO_val (a_load (by exact rfl) (by assumption) (by exact rfl)) ?_; refine wO_val (a_nilchk (by exact rfl)) ?_; refine wO_val (a_faddr (by exact rfl)) ?_; refine wO_val (a_faddr (by exact rfl)) ?_; refine wO_val (a_load (by exact rfl) (by assumption) (by exact rfl)) ?_; refine wO_val (a_len1 (by exact rfl)) ?_; refine wO_val (a_mov (by exact rfl)) ?_
  refine wO_nil ?_; refine kR_k (by simp only [keepE, dstE, geT, paramsE, cond_true, cond_false, Nat.beq]; exact rfl) ?_; refine kS_n ?_; refine wE_block ?_
  refine wE_loop (fun k e ds h' => ∃ i : Nat, i ≤ n ∧ k = n - i ∧ e = [(0, .func (.yield l') #[] #[]), (2, .pointer (some ⟨px, 0, none⟩)), (10, .slice sa n c), (11, .int .i64 n), (12, .int .i64 i)] ∧ ds = [] ∧ Lk lo h h' ∧ P (leavesL a b (l.take i) 0) h')
    ⟨0, Nat.zero_le _, rfl, rfl, rfl, .refl _ _, by simpa [leavesL] using h0⟩ ?_
  clear hpb hbb
  rintro k e ds h' ⟨i, hi, rfl, rfl, rfl, hk, hP⟩
  by_cases hlt : i < n
  · obtain ⟨x, hxl⟩ : ∃ x, l[i]? = some x := ⟨l[i]'(by omega), List.getElem?_eq_getElem (by omega)⟩
    have hsl := hks _ _ hP
    rcases hsl.inv with ⟨_, _, hz, _⟩ | ⟨b0, o0, cap, hv, s, hcap⟩
    · omega
    · cases hv
      obtain ⟨vs, own, t0, g5, g6⟩ := slice_elem s hxl
      have hpx' := hpx _ _ hP
      refine wE_seq ?_; refine wE_region ?_; refine wO_val (a_num (by exact rfl) (by exact rfl) (by exact m_geqT (by omega))) ?_; refine wO_nil ?_; refine kR_k (by simp only [keepE, dstE, geT, paramsE, cond_true, cond_false, Nat.beq]; exact rfl) ?_; refine kS_n ?_; refine wE_seq ?_; refine wE_true (by exact rfl) ?_; refine wE_skip ?_; refine kS_n ?_; refine wE_seq ?_; refine wE_block ?_; refine wE_seq ?_
      refine wE_region ?_; refine wO_val (a_mov (by exact rfl)) ?_
      refine wO_val (a_iaddrS (by exact rfl) (by exact rfl) hlt) ?_
      refine wO_val (a_loadN (by exact rfl) g5 g6 (by exact rfl)) ?_
      have hpxl : px < h'.next := WF.get_lt (hk.wf hr.wf) hpx'
      refine wO_val a_new ?_; refine wO_val (a_mov (by exact rfl)) ?_; refine wO_val (a_store (by exact rfl) (by exact rfl) (by (simp (disch := first | omega | (simp only [z1, z2]; omega)) only [z3, z4, z5, z6, z7, z1, z2, *]; exact rfl)) (by exact rfl) (by exact rfl)) ?_; refine wO_nil ?_
      refine kR_k (by simp only [keepE, dstE, geT, paramsE, cond_true, cond_false, Nat.beq]; exact rfl) ?_; refine kS_n ?_; refine wE_seq ?_; refine wE_seq ?_; refine wE_region ?_
      refine wO_val (a_loadN (by exact rfl) (by (simp (disch := first | omega | (simp only [z1, z2]; omega)) only [z3, z4, z5, z6, z7, z1, z2, *]; exact rfl)) (by exact rfl) (by exact rfl)) ?_; refine wO_val (a_faddr (by exact rfl)) ?_
      refine wO_val (a_load (by exact rfl) (by (simp (disch := first | omega | (simp only [z1, z2]; omega)) only [z3, z4, z5, z6, z7, z1, z2, *]; exact rfl)) (by exact rfl)) ?_; refine wO_val (a_faddr (by exact rfl)) ?_
      refine wO_val (a_load (by exact rfl) (by (simp (disch := first | omega | (simp only [z1, z2]; omega)) only [z3, z4, z5, z6, z7, z1, z2, *]; exact rfl)) (by exact rfl)) ?_; refine wO_val (a_build (by exact rfl)) ?_
      have hN' : N ≤ h'.next := Nat.le_trans hN hk.next
      have hlo' : lo ≤ h'.next := Nat.le_trans hlo hk.next
      have hkq : Lk lo h' ((h'.push (.cells [.int .i64 0, .int .i64 0, .int .i64 0, .int .i64 0, .bool false] true 1)).wr h.next h'.next (.cells (kc x) true 1)) := ((Lk.refl lo h').push hlo' _).wr hlo'
      have gk : (((h'.push (.cells [.int .i64 0, .int .i64 0, .int .i64 0, .int .i64 0, .bool false] true 1)).wr h.next h'.next (.cells (kc x) true 1))).get h'.next = some (.cells (kc x) true 1) := by (simp (disch := first | omega | (simp only [z1, z2]; omega)) only [z3, z4, z5, z6, z7, z1, z2, *]; done)
      have gp : (((h'.push (.cells [.int .i64 0, .int .i64 0, .int .i64 0, .int .i64 0, .bool false] true 1)).wr h.next h'.next (.cells (kc x) true 1))).get px = some (.cells [.int .i64 a, .int .i64 b] true 1) := by (simp (disch := first | omega | (simp only [z1, z2]; omega)) only [z3, z4, z5, z6, z7, z1, z2, *]; done)
      have hPq : P (leavesL a b (l.take i) 0) ((h'.push (.cells [.int .i64 0, .int .i64 0, .int .i64 0, .int .i64 0, .bool false] true 1)).wr h.next h'.next (.cells (kc x) true 1)) := Y.stable _ _ _ hP (Nat.le_succ_of_le hN') fun z hz => (z5 (by omega)).trans (z4 (by omega))
      have hqn : h'.next < (((h'.push (.cells [.int .i64 0, .int .i64 0, .int .i64 0, .int .i64 0, .bool false] true 1)).wr h.next h'.next (.cells (kc x) true 1))).next := Nat.lt_succ_self _
      have hmem := leaves_mem (a := a) (b := b) hxl
      have hsucc := leaves_succ (a := a) (b := b) hxl
      change WO T _ _ _ _ _ _ ((h'.push (.cells [.int .i64 0, .int .i64 0, .int .i64 0, .int .i64 0, .bool false] true 1)).wr h.next h'.next (.cells (kc x) true 1))
      generalize hH : Heap.wr (Heap.push h' _) _ _ _ = H at *
      clear hH g5 g6 s hpx' hsl hP hpxl
      have hkH := hk.trans hkq
      by_cases c1 : (a : Int) = x.w ∧ (b : Int) = x.h
      · have L1 : leavesEq [.i .i64, .i .i64] [.int .i64 a, .int .i64 b] [.int .i64 x.w, .int .i64 x.h] = some true := by rw [leaves2, decide_eq_true c1]
        refine wO_val (a_agg (b := true) (by exact rfl) (by exact rfl) L1) ?_
        refine wO_val (a_mov (by exact rfl)) ?_; refine wO_on (by exact rfl) ?_; refine wO_val (a_mov (by exact rfl)) ?_; refine wO_on (by exact rfl) ?_; refine wO_val (a_mov (by exact rfl)) ?_; refine wO_on (by exact rfl) ?_; refine wO_val (a_build (by exact rfl)) ?_; refine wO_on (by exact rfl) ?_
        refine wO_call (fn := .yield l') (args := [nodeV (1, i)]) (by rfl) ?_
        refine Y.call hp (hmem _ (by simp [leafAt, c1])) (hkH.wf hr.wf) (Nat.le_trans hlo hkH.next) (Nat.le_trans hN hkH.next) hPq ?_
        intro h2 hk2 hm2 hP2
        have gk2 := (hm2 h'.next hN' hqn).trans gk
        have gp2 := hpx _ _ hP2
        have hk3 := hkH.trans hk2
        by_cases c2 : x.turn = true
        · have ga : (h2).get h'.next = some (.cells [.int .i64 x.id, .int .i64 x.w, .int .i64 x.h, .int .i64 x.worth, .bool true] true 1) := by rw [gk2, kc, c2]
          clear gk gk2
          refine wO_on (by exact rfl) ?_; refine wO_val (a_not (by exact rfl)) ?_; refine wO_val (a_pickT (by exact rfl) (by exact rfl)) ?_; refine wO_nil ?_; refine kR_k (by simp only [keepE, dstE, geT, paramsE, cond_true, cond_false, Nat.beq]; exact rfl) ?_; refine kS_n ?_; refine wE_false (by exact rfl) ?_; refine wE_skip ?_; refine kS_n ?_; refine wE_seq ?_; refine wE_region ?_
          refine wO_val (a_faddr (by exact rfl)) ?_; refine wO_val (a_load (by exact rfl) (by assumption) (by exact rfl)) ?_; refine wO_val (a_mov (by exact rfl)) ?_; refine wO_on (by exact rfl) ?_; refine wO_val (a_loadN (by exact rfl) (by assumption) (by exact rfl) (by exact rfl)) ?_; refine wO_on (by exact rfl) ?_; refine wO_val (a_faddr (by exact rfl)) ?_; refine wO_on (by exact rfl) ?_
          refine wO_val (a_load (by exact rfl) (by assumption) (by exact rfl)) ?_; refine wO_on (by exact rfl) ?_; refine wO_val (a_faddr (by exact rfl)) ?_; refine wO_on (by exact rfl) ?_; refine wO_val (a_load (by exact rfl) (by assumption) (by exact rfl)) ?_; refine wO_on (by exact rfl) ?_; refine wO_val (a_build (by exact rfl)) ?_; refine wO_on (by exact rfl) ?_
          by_cases c3 : (a : Int) = x.h ∧ (b : Int) = x.w
          · have L2 : leavesEq [.i .i64, .i .i64] [.int .i64 a, .int .i64 b] [.int .i64 x.h, .int .i64 x.w] = some true := by rw [leaves2, decide_eq_true c3]
            refine wO_val (a_agg (b := true) (by exact rfl) (by exact rfl) L2) ?_
            refine wO_val (a_pickT (by exact rfl) (by exact rfl)) ?_; refine wO_val (a_mov (by exact rfl)) ?_; refine wO_on (by exact rfl) ?_; refine wO_val (a_mov (by exact rfl)) ?_; refine wO_on (by exact rfl) ?_; refine wO_val (a_mov (by exact rfl)) ?_; refine wO_on (by exact rfl) ?_; refine wO_val (a_build (by exact rfl)) ?_; refine wO_on (by exact rfl) ?_
            refine wO_call (fn := .yield l') (args := [nodeV (2, i)]) (by rfl) ?_
            refine Y.call hp (hmem _ (by simp [leafAt, c2, c3])) (hk3.wf hr.wf) (Nat.le_trans hlo hk3.next) (Nat.le_trans hN hk3.next) hP2 ?_
            intro h4 hk4 _ hP4
            refine wO_on (by exact rfl) ?_; refine wO_val (a_not (by exact rfl)) ?_; refine wO_val (a_pickT (by exact rfl) (by exact rfl)) ?_; refine wO_nil ?_; refine kR_k (by simp only [keepE, dstE, geT, paramsE, cond_true, cond_false, Nat.beq]; exact rfl) ?_; refine kS_n ?_; refine wE_false (by exact rfl) ?_; refine wE_skip ?_; refine kB_n ?_; refine kS_n ?_; refine wE_region ?_
            refine wO_val (a_num (by exact rfl) (by exact rfl) (by exact m_inc (by omega))) ?_; refine wO_val (a_mov (by exact rfl)) ?_; refine wO_nil ?_; refine kR_k (by simp only [keepE, dstE, geT, paramsE, cond_true, cond_false, Nat.beq]; exact rfl) ?_; refine kS_n ?_
            refine ⟨n - (i + 1), by omega, i + 1, by omega, rfl, rfl, rfl, hk3.trans hk4, ?_⟩
            have hl : leafAt x i a b = [(1, i)] ++ [(2, i)] := by unfold leafAt; rw [if_pos c1, if_pos ⟨c2, c3⟩]
            rw [hsucc, hl, ← List.append_assoc]; exact hP4
          · have L2 : leavesEq [.i .i64, .i .i64] [.int .i64 a, .int .i64 b] [.int .i64 x.h, .int .i64 x.w] = some false := by rw [leaves2, decide_eq_false c3]
            refine wO_val (a_agg (b := false) (by exact rfl) (by exact rfl) L2) ?_
            refine wO_val (a_pickT (by exact rfl) (by exact rfl)) ?_; refine wO_val (a_mov (by exact rfl)) ?_; refine wO_off (by exact rfl) (by exact rfl) ?_; refine wO_off (by exact rfl) (by exact rfl) ?_; refine wO_off (by exact rfl) (by exact rfl) ?_; refine wO_off (by exact rfl) (by exact rfl) ?_; refine wO_off (by exact rfl) (by exact rfl) ?_; refine wO_val (a_pickF (by exact rfl) (by exact rfl)) ?_
            refine wO_nil ?_; refine kR_k (by simp only [keepE, dstE, geT, paramsE, cond_true, cond_false, Nat.beq]; exact rfl) ?_; refine kS_n ?_; refine wE_false (by exact rfl) ?_; refine wE_skip ?_; refine kB_n ?_; refine kS_n ?_; refine wE_region ?_; refine wO_val (a_num (by exact rfl) (by exact rfl) (by exact m_inc (by omega))) ?_; refine wO_val (a_mov (by exact rfl)) ?_; refine wO_nil ?_
            refine kR_k (by simp only [keepE, dstE, geT, paramsE, cond_true, cond_false, Nat.beq]; exact rfl) ?_; refine kS_n ?_
            refine ⟨n - (i + 1), by omega, i + 1, by omega, rfl, rfl, rfl, hk3, ?_⟩
            have hl : leafAt x i a b = [(1, i)] ++ [] := by unfold leafAt; rw [if_pos c1, if_neg (fun q => c3 q.2)]
            rw [hsucc, hl, List.append_nil]; exact hP2
        · have c2 : x.turn = false := by simpa using c2
          have ga : (h2).get h'.next = some (.cells [.int .i64 x.id, .int .i64 x.w, .int .i64 x.h, .int .i64 x.worth, .bool false] true 1) := by rw [gk2, kc, c2]
          clear gk gk2
          refine wO_on (by exact rfl) ?_; refine wO_val (a_not (by exact rfl)) ?_; refine wO_val (a_pickT (by exact rfl) (by exact rfl)) ?_; refine wO_nil ?_; refine kR_k (by simp only [keepE, dstE, geT, paramsE, cond_true, cond_false, Nat.beq]; exact rfl) ?_; refine kS_n ?_; refine wE_false (by exact rfl) ?_; refine wE_skip ?_; refine kS_n ?_; refine wE_seq ?_; refine wE_region ?_
          refine wO_val (a_faddr (by exact rfl)) ?_; refine wO_val (a_load (by exact rfl) (by assumption) (by exact rfl)) ?_; refine wO_val (a_mov (by exact rfl)) ?_; refine wO_off (by exact rfl) (by exact rfl) ?_; refine wO_off (by exact rfl) (by exact rfl) ?_; refine wO_off (by exact rfl) (by exact rfl) ?_; refine wO_off (by exact rfl) (by exact rfl) ?_; refine wO_off (by exact rfl) (by exact rfl) ?_
          refine wO_off (by exact rfl) (by exact rfl) ?_; refine wO_off (by exact rfl) (by exact rfl) ?_; refine wO_val (a_pickF (by exact rfl) (by exact rfl)) ?_; refine wO_val (a_mov (by exact rfl)) ?_; refine wO_off (by exact rfl) (by exact rfl) ?_; refine wO_off (by exact rfl) (by exact rfl) ?_; refine wO_off (by exact rfl) (by exact rfl) ?_; refine wO_off (by exact rfl) (by exact rfl) ?_
          refine wO_off (by exact rfl) (by exact rfl) ?_; refine wO_val (a_pickF (by exact rfl) (by exact rfl)) ?_; refine wO_nil ?_; refine kR_k (by simp only [keepE, dstE, geT, paramsE, cond_true, cond_false, Nat.beq]; exact rfl) ?_; refine kS_n ?_; refine wE_false (by exact rfl) ?_; refine wE_skip ?_; refine kB_n ?_; refine kS_n ?_; refine wE_region ?_
          refine wO_val (a_num (by exact rfl) (by exact rfl) (by exact m_inc (by omega))) ?_; refine wO_val (a_mov (by exact rfl)) ?_; refine wO_nil ?_; refine kR_k (by simp only [keepE, dstE, geT, paramsE, cond_true, cond_false, Nat.beq]; exact rfl) ?_; refine kS_n ?_
          refine ⟨n - (i + 1), by omega, i + 1, by omega, rfl, rfl, rfl, hk3, ?_⟩
          have hl : leafAt x i a b = [(1, i)] ++ [] := by unfold leafAt; rw [if_pos c1, if_neg (fun q => by rw [c2] at q; cases q.1)]
          rw [hsucc, hl, List.append_nil]; exact hP2
      · have L1 : leavesEq [.i .i64, .i .i64] [.int .i64 a, .int .i64 b] [.int .i64 x.w, .int .i64 x.h] = some false := by rw [leaves2, decide_eq_false c1]
        refine wO_val (a_agg (b := false) (by exact rfl) (by exact rfl) L1) ?_
        by_cases c2 : x.turn = true
        · have ga : (H).get h'.next = some (.cells [.int .i64 x.id, .int .i64 x.w, .int .i64 x.h, .int .i64 x.worth, .bool true] true 1) := by rw [gk, kc, c2]
          clear gk
          refine wO_val (a_mov (by exact rfl)) ?_; refine wO_off (by exact rfl) (by exact rfl) ?_; refine wO_off (by exact rfl) (by exact rfl) ?_; refine wO_off (by exact rfl) (by exact rfl) ?_; refine wO_off (by exact rfl) (by exact rfl) ?_; refine wO_off (by exact rfl) (by exact rfl) ?_; refine wO_val (a_pickF (by exact rfl) (by exact rfl)) ?_; refine wO_nil ?_
          refine kR_k (by simp only [keepE, dstE, geT, paramsE, cond_true, cond_false, Nat.beq]; exact rfl) ?_; refine kS_n ?_; refine wE_false (by exact rfl) ?_; refine wE_skip ?_; refine kS_n ?_; refine wE_seq ?_; refine wE_region ?_; refine wO_val (a_faddr (by exact rfl)) ?_; refine wO_val (a_load (by exact rfl) (by assumption) (by exact rfl)) ?_; refine wO_val (a_mov (by exact rfl)) ?_
          refine wO_on (by exact rfl) ?_; refine wO_val (a_loadN (by exact rfl) (by assumption) (by exact rfl) (by exact rfl)) ?_; refine wO_on (by exact rfl) ?_; refine wO_val (a_faddr (by exact rfl)) ?_; refine wO_on (by exact rfl) ?_; refine wO_val (a_load (by exact rfl) (by assumption) (by exact rfl)) ?_; refine wO_on (by exact rfl) ?_; refine wO_val (a_faddr (by exact rfl)) ?_
          refine wO_on (by exact rfl) ?_; refine wO_val (a_load (by exact rfl) (by assumption) (by exact rfl)) ?_; refine wO_on (by exact rfl) ?_; refine wO_val (a_build (by exact rfl)) ?_; refine wO_on (by exact rfl) ?_
          by_cases c3 : (a : Int) = x.h ∧ (b : Int) = x.w
          · have L2 : leavesEq [.i .i64, .i .i64] [.int .i64 a, .int .i64 b] [.int .i64 x.h, .int .i64 x.w] = some true := by rw [leaves2, decide_eq_true c3]
            refine wO_val (a_agg (b := true) (by exact rfl) (by exact rfl) L2) ?_
            refine wO_val (a_pickT (by exact rfl) (by exact rfl)) ?_; refine wO_val (a_mov (by exact rfl)) ?_; refine wO_on (by exact rfl) ?_; refine wO_val (a_mov (by exact rfl)) ?_; refine wO_on (by exact rfl) ?_; refine wO_val (a_mov (by exact rfl)) ?_; refine wO_on (by exact rfl) ?_; refine wO_val (a_build (by exact rfl)) ?_; refine wO_on (by exact rfl) ?_
            refine wO_call (fn := .yield l') (args := [nodeV (2, i)]) (by rfl) ?_
            refine Y.call hp (hmem _ (by simp [leafAt, c2, c3])) (hkH.wf hr.wf) (Nat.le_trans hlo hkH.next) (Nat.le_trans hN hkH.next) hPq ?_
            intro h4 hk4 _ hP4
            refine wO_on (by exact rfl) ?_; refine wO_val (a_not (by exact rfl)) ?_; refine wO_val (a_pickT (by exact rfl) (by exact rfl)) ?_; refine wO_nil ?_; refine kR_k (by simp only [keepE, dstE, geT, paramsE, cond_true, cond_false, Nat.beq]; exact rfl) ?_; refine kS_n ?_; refine wE_false (by exact rfl) ?_; refine wE_skip ?_; refine kB_n ?_; refine kS_n ?_; refine wE_region ?_
            refine wO_val (a_num (by exact rfl) (by exact rfl) (by exact m_inc (by omega))) ?_; refine wO_val (a_mov (by exact rfl)) ?_; refine wO_nil ?_; refine kR_k (by simp only [keepE, dstE, geT, paramsE, cond_true, cond_false, Nat.beq]; exact rfl) ?_; refine kS_n ?_
            refine ⟨n - (i + 1), by omega, i + 1, by omega, rfl, rfl, rfl, hkH.trans hk4, ?_⟩
            have hl : leafAt x i a b = [] ++ [(2, i)] := by unfold leafAt; rw [if_neg c1, if_pos ⟨c2, c3⟩]
            rw [hsucc, hl, List.nil_append]; exact hP4
          · have L2 : leavesEq [.i .i64, .i .i64] [.int .i64 a, .int .i64 b] [.int .i64 x.h, .int .i64 x.w] = some false := by rw [leaves2, decide_eq_false c3]
            refine wO_val (a_agg (b := false) (by exact rfl) (by exact rfl) L2) ?_
            refine wO_val (a_pickT (by exact rfl) (by exact rfl)) ?_; refine wO_val (a_mov (by exact rfl)) ?_; refine wO_off (by exact rfl) (by exact rfl) ?_; refine wO_off (by exact rfl) (by exact rfl) ?_; refine wO_off (by exact rfl) (by exact rfl) ?_; refine wO_off (by exact rfl) (by exact rfl) ?_; refine wO_off (by exact rfl) (by exact rfl) ?_; refine wO_val (a_pickF (by exact rfl) (by exact rfl)) ?_
            refine wO_nil ?_; refine kR_k (by simp only [keepE, dstE, geT, paramsE, cond_true, cond_false, Nat.beq]; exact rfl) ?_; refine kS_n ?_; refine wE_false (by exact rfl) ?_; refine wE_skip ?_; refine kB_n ?_; refine kS_n ?_; refine wE_region ?_; refine wO_val (a_num (by exact rfl) (by exact rfl) (by exact m_inc (by omega))) ?_; refine wO_val (a_mov (by exact rfl)) ?_; refine wO_nil ?_
            refine kR_k (by simp only [keepE, dstE, geT, paramsE, cond_true, cond_false, Nat.beq]; exact rfl) ?_; refine kS_n ?_
            refine ⟨n - (i + 1), by omega, i + 1, by omega, rfl, rfl, rfl, hkH, ?_⟩
            have hl : leafAt x i a b = [] ++ [] := by unfold leafAt; rw [if_neg c1, if_neg (fun q => c3 q.2)]
            rw [hsucc, hl, List.append_nil, List.append_nil]; exact hPq
        · have c2 : x.turn = false := by simpa using c2
          have ga : (H).get h'.next = some (.cells [.int .i64 x.id, .int .i64 x.w, .int .i64 x.h, .int .i64 x.worth, .bool false] true 1) := by rw [gk, kc, c2]
          clear gk
          refine wO_val (a_mov (by exact rfl)) ?_; refine wO_off (by exact rfl) (by exact rfl) ?_; refine wO_off (by exact rfl) (by exact rfl) ?_; refine wO_off (by exact rfl) (by exact rfl) ?_; refine wO_off (by exact rfl) (by exact rfl) ?_; refine wO_off (by exact rfl) (by exact rfl) ?_; refine wO_val (a_pickF (by exact rfl) (by exact rfl)) ?_; refine wO_nil ?_
          refine kR_k (by simp only [keepE, dstE, geT, paramsE, cond_true, cond_false, Nat.beq]; exact rfl) ?_; refine kS_n ?_; refine wE_false (by exact rfl) ?_; refine wE_skip ?_; refine kS_n ?_; refine wE_seq ?_; refine wE_region ?_; refine wO_val (a_faddr (by exact rfl)) ?_; refine wO_val (a_load (by exact rfl) (by assumption) (by exact rfl)) ?_; refine wO_val (a_mov (by exact rfl)) ?_
          refine wO_off (by exact rfl) (by exact rfl) ?_; refine wO_off (by exact rfl) (by exact rfl) ?_; refine wO_off (by exact rfl) (by exact rfl) ?_; refine wO_off (by exact rfl) (by exact rfl) ?_; refine wO_off (by exact rfl) (by exact rfl) ?_; refine wO_off (by exact rfl) (by exact rfl) ?_; refine wO_off (by exact rfl) (by exact rfl) ?_; refine wO_val (a_pickF (by exact rfl) (by exact rfl)) ?_
          refine wO_val (a_mov (by exact rfl)) ?_; refine wO_off (by exact rfl) (by exact rfl) ?_; refine wO_off (by exact rfl) (by exact rfl) ?_; refine wO_off (by exact rfl) (by exact rfl) ?_; refine wO_off (by exact rfl) (by exact rfl) ?_; refine wO_off (by exact rfl) (by exact rfl) ?_; refine wO_val (a_pickF (by exact rfl) (by exact rfl)) ?_; refine wO_nil ?_
          refine kR_k (by simp only [keepE, dstE, geT, paramsE, cond_true, cond_false, Nat.beq]; exact rfl) ?_; refine kS_n ?_; refine wE_false (by exact rfl) ?_; refine wE_skip ?_; refine kB_n ?_; refine kS_n ?_; refine wE_region ?_; refine wO_val (a_num (by exact rfl) (by exact rfl) (by exact m_inc (by omega))) ?_; refine wO_val (a_mov (by exact rfl)) ?_; refine wO_nil ?_
          refine kR_k (by simp only [keepE, dstE, geT, paramsE, cond_true, cond_false, Nat.beq]; exact rfl) ?_; refine kS_n ?_
          refine ⟨n - (i + 1), by omega, i + 1, by omega, rfl, rfl, rfl, hkH, ?_⟩
          have hl : leafAt x i a b = [] ++ [] := by unfold leafAt; rw [if_neg c1, if_neg (fun q => by rw [c2] at q; cases q.1)]
          rw [hsucc, hl, List.append_nil, List.append_nil]; exact hPq
  · obtain rfl : i = n := by omega
    have hfull : l.take i = l := List.take_of_length_le (by omega)
    rw [hfull] at hP
    refine wE_seq ?_; refine wE_region ?_; refine wO_val (a_num (by exact rfl) (by exact rfl) (by exact m_geqF (by omega))) ?_; refine wO_nil ?_; refine kR_k (by simp only [keepE, dstE, geT, paramsE, cond_true, cond_false, Nat.beq]; exact rfl) ?_; refine kS_n ?_; refine wE_seq ?_; refine wE_false (by exact rfl) ?_; refine wE_exit ?_; refine kS_e ?_; refine kS_e ?_; refine kB_e ?_
    exact endG_end (hk.log (by rw [hr.log]; exact LogGe.nil _)) rfl ⟨rfl, hP⟩
end Go.A.Pk
end
section
set_option maxRecDepth 100000
namespace Go.A.Pk
variable {T : Nat → Option AFunc}
def fn2 (f p q : Nat) : Value := .func (.func f) #[] #[.pointer (some ⟨p, 0, none⟩), .pointer (some ⟨q, 0, none⟩)]
def fn1 (f p : Nat) : Value := .func (.func f) #[] #[.pointer (some ⟨p, 0, none⟩)]
theorem boards94 (hp : primAS T) (hf : T 94 = some f94) {h : Heap} (hr : Rdy h) (w ht : Int) : Al T 94 [.int .i64 w, .int .i64 ht] h fun v h' => v = fn2 136 h.next (h.next + 1) ∧ h'.next = h.next + 2 ∧ h'.get h.next = some (.cells [.int .i64 w] true 1) ∧ h'.get (h.next + 1) = some (.cells [.int .i64 ht] true 1) := by
  refine .of hp hf hr (fun v h1 hv q => by rw [q.1] at hv; cases hv) ?_
  refine wE_seq ?_; refine wE_region ?_; refine wO_val (a_box (by exact rfl) (by exact rfl)) ?_; refine wO_val (a_box (by exact rfl) (by exact rfl)) ?_; refine wO_val (a_mov (by exact rfl)) ?_; refine wO_nil ?_; refine kR_k (by simp only [keepE, dstE, geT, paramsE, cond_true, cond_false, Nat.beq]; exact rfl) ?_; refine kS_n ?_; refine wE_seq ?_; refine wE_region ?_
  refine wO_val (a_mkFunc (by exact rfl) (by exact rfl)) ?_; refine wO_val (a_mov (by exact rfl)) ?_; refine wO_nil ?_; refine kR_k (by simp only [keepE, dstE, geT, paramsE, cond_true, cond_false, Nat.beq]; exact rfl) ?_; refine kS_n ?_; refine wE_ret ?_
  exact endA_ret hr.log (by rfl) ⟨rfl, rfl, by (simp (disch := first | omega | (simp only [z1, z2]; omega)) only [z3, z4, z5, z6, z7, z1, z2, *]; exact rfl), by (simp (disch := first | omega | (simp only [z1, z2]; omega) | (simp only [z1, z2]; done) | fail) only [z8, z4, z5, z9, z7, z1, z2, *]; exact rfl)⟩
theorem leaves104 (hp : primAS T) (hf : T 104 = some f104) {h : Heap} (hr : Rdy h) (bb : Nat) (a b : Int) : Al T 104 [.pointer (some ⟨bb, 0, none⟩), .agg #[.int .i64 a, .int .i64 b]] h fun v h' => v = fn2 140 h.next (h.next + 1) ∧ h'.next = h.next + 2 ∧ h'.get h.next = some (.cells [.pointer (some ⟨bb, 0, none⟩)] true 1) ∧ h'.get (h.next + 1) = some (.cells [.int .i64 a, .int .i64 b] true 1) := by
  refine .of hp hf hr (fun v h1 hv q => by rw [q.1] at hv; cases hv) ?_
  refine wE_seq ?_; refine wE_region ?_; refine wO_val (a_box (by exact rfl) (by exact rfl)) ?_; refine wO_val (a_box (by exact rfl) (by exact rfl)) ?_; refine wO_val (a_mov (by exact rfl)) ?_; refine wO_nil ?_; refine kR_k (by simp only [keepE, dstE, geT, paramsE, cond_true, cond_false, Nat.beq]; exact rfl) ?_; refine kS_n ?_; refine wE_seq ?_; refine wE_region ?_
  refine wO_val (a_mkFunc (by exact rfl) (by exact rfl)) ?_; refine wO_val (a_mov (by exact rfl)) ?_; refine wO_nil ?_; refine kR_k (by simp only [keepE, dstE, geT, paramsE, cond_true, cond_false, Nat.beq]; exact rfl) ?_; refine kS_n ?_; refine wE_ret ?_
  exact endA_ret hr.log (by rfl) ⟨rfl, rfl, by (simp (disch := first | omega | (simp only [z1, z2]; omega)) only [z3, z4, z5, z6, z7, z1, z2, *]; exact rfl), by (simp (disch := first | omega | (simp only [z1, z2]; omega) | (simp only [z1, z2]; done) | fail) only [z8, z4, z5, z9, z7, z1, z2, *]; exact rfl)⟩
theorem cuts105 (hp : primAS T) (hf : T 105 = some f105) {h : Heap} (hr : Rdy h) (bb : Value) (a b : Int) : Al T 105 [bb, .agg #[.int .i64 a, .int .i64 b]] h fun v h' => v = fn1 141 h.next ∧ h'.next = h.next + 1 ∧ h'.get h.next = some (.cells [.int .i64 a, .int .i64 b] true 1) := by
  refine .of hp hf hr (fun v h1 hv q => by rw [q.1] at hv; cases hv) ?_
  refine wE_seq ?_; refine wE_region ?_; refine wO_val (a_box (by exact rfl) (by exact rfl)) ?_; refine wO_val (a_mov (by exact rfl)) ?_; refine wO_nil ?_; refine kR_k (by simp only [keepE, dstE, geT, paramsE, cond_true, cond_false, Nat.beq]; exact rfl) ?_; refine kS_n ?_; refine wE_seq ?_; refine wE_region ?_; refine wO_val (a_mkFunc (by exact rfl) (by exact rfl)) ?_
  refine wO_val (a_mov (by exact rfl)) ?_; refine wO_nil ?_; refine kR_k (by simp only [keepE, dstE, geT, paramsE, cond_true, cond_false, Nat.beq]; exact rfl) ?_; refine kS_n ?_; refine wE_ret ?_
  exact endA_ret hr.log (by rfl) ⟨rfl, rfl, by (simp (disch := first | omega | (simp only [z1, z2]; omega)) only [z3, z4, z5, z6, z7, z1, z2, *]; exact rfl)⟩
def oneB (x : Nat × Nat) (a b : Nat) : Int × Int := if x.1 = 3 then (x.2, b) else (a, x.2)
def twoB (kerf : Int) (x : Nat × Nat) (a b : Nat) : Int × Int := if x.1 = 3 then ((a : Int) - x.2 - kerf, b) else (a, (b : Int) - x.2 - kerf)
def pairV (x : Int × Int) : Value := .agg #[.int .i64 x.1, .int .i64 x.2]
set_option maxHeartbeats 4000000 in
theorem split106 (hp : primAS T) (hf : T 106 = some f106) {h : Heap} (hr : Rdy h) {bb : Nat} {s ws : Value} {own : Bool} {kerf : Int} (hb : h.get bb = some (.cells [s, .int .i64 kerf, ws] own 1)) (hlt : bb < h.next) (hk : 0 ≤ kerf ∧ kerf ≤ 100) {x : Nat × Nat} {a b : Nat} (hx : x.1 = 3 ∨ x.1 = 4) (hx2 : x.2 < 1000) (ha : a < 1000) (hbb : b < 1000) :
    Pu T 106 [.pointer (some ⟨bb, 0, none⟩), boardV (a, b), nodeV x] h (.tuple #[pairV (oneB x a b), pairV (twoB kerf x a b)]) := by
  refine .of hp hf hr rfl ?_
  obtain ⟨x1, x2⟩ := x
  unfold boardV nodeV
  simp only at hx hx2
  rcases hx with rfl | rfl
  · refine wE_seq ?_; refine wE_region ?_; refine wO_val (a_box (by exact rfl) (by exact rfl)) ?_; refine wO_val (a_box (by exact rfl) (by exact rfl)) ?_; refine wO_val a_new ?_; refine wO_val a_new ?_; refine wO_nil ?_; refine kR_k (by simp only [keepE, dstE, geT, paramsE, cond_true, cond_false, Nat.beq]; exact rfl) ?_; refine kS_n ?_; refine wE_seq ?_; refine wE_seq ?_; refine wE_region ?_
    refine wO_val (a_faddr (by exact rfl)) ?_; refine wO_val (a_load (by exact rfl) (by (simp (disch := first | omega | (simp only [z1, z2]; omega) | (simp only [z1, z2]; done) | fail) only [z8, z4, z5, z9, z7, z1, z2, *]; exact rfl)) (by exact rfl)) ?_
    refine wO_val (a_num (by exact rfl) (by exact rfl) (by exact m_eqlT (by omega))) ?_; refine wO_nil ?_; refine kR_k (by simp only [keepE, dstE, geT, paramsE, cond_true, cond_false, Nat.beq]; exact rfl) ?_; refine kS_n ?_; refine wE_true (by exact rfl) ?_; refine wE_seq ?_; refine wE_draw ?_; refine wD_quiet rfl rfl rfl (by exact rfl) (by exact rfl) (by exact rfl) (a_faddr (by exact rfl)) ?_
    refine wD_quiet rfl rfl rfl (by exact rfl) (by exact rfl) (by exact rfl) (a_load (by exact rfl) (by (simp (disch := first | omega | (simp only [z1, z2]; omega) | (simp only [z1, z2]; done) | fail) only [z8, z4, z5, z9, z7, z1, z2, *]; exact rfl)) (by exact rfl)) ?_
    refine wD_quiet rfl rfl rfl (by exact rfl) (by exact rfl) (by exact rfl) (a_iaddrA (i := 1) (by exact rfl) (by exact rfl) (by omega)) ?_
    refine wD_quiet rfl rfl rfl (by exact rfl) (by exact rfl) (by exact rfl) (a_load (by exact rfl) (by (simp (disch := first | omega | (simp only [z1, z2]; omega)) only [z3, z4, z5, z6, z7, z1, z2, *]; exact rfl)) (by exact rfl)) ?_
    refine wD_quiet rfl rfl rfl (by exact rfl) (by exact rfl) (by exact rfl) (a_build (by exact rfl)) ?_; refine wD_quiet rfl rfl rfl (by exact rfl) (by exact rfl) (by exact rfl) (a_iaddrA (i := 0) (by exact rfl) (by exact rfl) (by omega)) ?_
    refine wD_quiet rfl rfl rfl (by exact rfl) (by exact rfl) (by exact rfl) (a_load (by exact rfl) (by (simp (disch := first | omega | (simp only [z1, z2]; omega)) only [z3, z4, z5, z6, z7, z1, z2, *]; exact rfl)) (by exact rfl)) ?_
    refine wD_quiet rfl rfl rfl (by exact rfl) (by exact rfl) (by exact rfl) (a_faddr (by exact rfl)) ?_
    refine wD_quiet rfl rfl rfl (by exact rfl) (by exact rfl) (by exact rfl) (a_load (by exact rfl) (by (simp (disch := first | omega | (simp only [z1, z2]; omega) | (simp only [z1, z2]; done) | fail) only [z8, z4, z5, z9, z7, z1, z2, *]; exact rfl)) (by exact rfl)) ?_
    refine wD_quiet rfl rfl rfl (by exact rfl) (by exact rfl) (by exact rfl) (a_num (by exact rfl) (by exact rfl) (by exact m_sub (wrapA_i64 (by omega) (by omega)))) ?_; refine wD_quiet rfl rfl rfl (by exact rfl) (by exact rfl) (by exact rfl) (a_mov (by exact rfl)) ?_; refine wD_quiet rfl rfl rfl (by exact rfl) (by exact rfl) (by exact rfl) (a_nilchk (by exact rfl)) ?_
    refine wD_quiet rfl rfl rfl (by exact rfl) (by exact rfl) (by exact rfl) (a_faddr (by exact rfl)) ?_; refine wD_quiet rfl rfl rfl (by exact rfl) (by exact rfl) (by exact rfl) (a_faddr (by exact rfl)) ?_
    refine wD_quiet rfl rfl rfl (by exact rfl) (by exact rfl) (by exact rfl) (a_load (by exact rfl) (by (simp (disch := first | omega | (simp only [z1, z2]; omega)) only [z3, z4, z5, z6, z7, z1, z2, *]; exact rfl)) (by exact rfl)) ?_
    refine wD_quiet rfl rfl rfl (by exact rfl) (by exact rfl) (by exact rfl) (a_num (by exact rfl) (by exact rfl) (by exact m_sub (wrapA_i64 (by omega) (by omega)))) ?_; refine wD_quiet rfl rfl rfl (by exact rfl) (by exact rfl) (by exact rfl) (a_iaddrA (i := 1) (by exact rfl) (by exact rfl) (by omega)) ?_
    refine wD_quiet rfl rfl rfl (by exact rfl) (by exact rfl) (by exact rfl) (a_load (by exact rfl) (by (simp (disch := first | omega | (simp only [z1, z2]; omega)) only [z3, z4, z5, z6, z7, z1, z2, *]; exact rfl)) (by exact rfl)) ?_
    refine wD_quiet rfl rfl rfl (by exact rfl) (by exact rfl) (by exact rfl) (a_build (by exact rfl)) ?_
    refine wD_store rfl rfl rfl (by exact rfl) (by exact rfl) (by exact rfl) (by (simp (disch := first | omega | (simp only [z1, z2]; omega) | (simp only [z1, z2]; done) | fail) only [z8, z4, z5, z9, z7, z1, z2, *]; exact rfl)) (by exact rfl) (by exact rfl) (by (simp only [z1, z2]; omega)) (by (simp only [z1, z2]; omega)) (by apply ra_keepC rfl (rq_quiet rfl (a_build (by exact rfl)) (by exact sv_agg (by refine sl_cons (s1_int _ _) ?_; refine sl_cons (s1_int _ _) ?_; exact sl_nil))) rfl; apply ra_keepC rfl (rq_quiet rfl (a_load (by exact rfl) (by (simp (disch := first | omega | (simp only [z1, z2]; omega)) only [z3, z4, z5, z6, z7, z1, z2, *]; exact rfl)) (by exact rfl)) (by exact sv_int _ _)) rfl; apply ra_keepC rfl (rq_quiet rfl (a_iaddrA (i := 1) (by exact rfl) (by exact rfl) (by omega)) (by exact sv_ptr _)) rfl; apply ra_keepC rfl (rq_quiet rfl (a_num (by exact rfl) (by exact rfl) (by exact m_sub (wrapA_i64 (by omega) (by omega)))) (by exact sv_int _ _)) rfl; apply ra_keepC rfl (rq_quiet rfl (a_load (by exact rfl) (by (simp (disch := first | omega | (simp only [z1, z2]; omega)) only [z3, z4, z5, z6, z7, z1, z2, *]; exact rfl)) (by exact rfl)) (by exact sv_int _ _)) rfl; apply ra_keepC rfl (rq_quiet rfl (a_faddr (by exact rfl)) (by exact sv_ptr _)) rfl; apply ra_keepC rfl (rq_quiet rfl (a_faddr (by exact rfl)) (by exact sv_ptr _)) rfl; apply ra_keepC rfl (rq_quiet rfl (a_nilchk (by exact rfl)) (by exact sv_ptr _)) rfl; apply ra_keepC rfl (rq_quiet rfl (a_mov (by exact rfl)) (by exact sv_ptr _)) rfl; apply ra_keepC rfl (rq_quiet rfl (a_num (by exact rfl) (by exact rfl) (by exact m_sub (wrapA_i64 (by omega) (by omega)))) (by exact sv_int _ _)) rfl; apply ra_keepC rfl (rq_quiet rfl (a_load (by exact rfl) (by (simp (disch := first | omega | (simp only [z1, z2]; omega) | (simp only [z1, z2]; done) | fail) only [z8, z4, z5, z9, z7, z1, z2, *]; exact rfl)) (by exact rfl)) (by exact sv_int _ _)) rfl; apply ra_keepC rfl (rq_quiet rfl (a_faddr (by exact rfl)) (by exact sv_ptr _)) rfl; apply ra_keepC rfl (rq_quiet rfl (a_load (by exact rfl) (by (simp (disch := first | omega | (simp only [z1, z2]; omega)) only [z3, z4, z5, z6, z7, z1, z2, *]; exact rfl)) (by exact rfl)) (by exact sv_int _ _)) rfl; apply ra_keepC rfl (rq_quiet rfl (a_iaddrA (i := 0) (by exact rfl) (by exact rfl) (by omega)) (by exact sv_ptr _)) rfl; apply ra_dropC rfl; apply ra_dropC rfl; apply ra_dropC rfl; apply ra_dropC rfl; apply ra_dropC rfl; exact ra_nil) ?_
    refine wD_store rfl rfl rfl (by exact rfl) (by exact rfl) (by exact rfl) (by (simp (disch := first | omega | (simp only [z1, z2]; omega) | (simp only [z1, z2]; done) | fail) only [z8, z4, z5, z9, z7, z1, z2, *]; exact rfl)) (by exact rfl) (by exact rfl) (by (simp only [z1, z2]; omega)) (by (simp only [z1, z2]; omega)) (by apply ra_dropC rfl; apply ra_dropC rfl; apply ra_dropC rfl; apply ra_dropC rfl; apply ra_dropC rfl; apply ra_dropC rfl; apply ra_dropC rfl; apply ra_dropC rfl; apply ra_dropC rfl; apply ra_dropC rfl; apply ra_dropC rfl; apply ra_dropC rfl; apply ra_dropC rfl; apply ra_dropC rfl; exact ra_nil) ?_
    refine wD_nil ?_; refine kR_k (by simp only [keepE, dstE, geT, paramsE, cond_true, cond_false, Nat.beq]; exact rfl) ?_; refine kS_n ?_; refine wE_ret ?_; refine kS_r ?_
    refine endP_ret ((Heap.log_wr_new (by (simp only [z1, z2]; omega))).trans ((Heap.log_wr_new (by (simp only [z1, z2]; omega))).trans hr.log)) (vs := [pairV (oneB (3, x2) a b), pairV (twoB kerf (3, x2) a b)]) ?_ rfl
    refine res_cells (b := h.next + 2) rfl (by (simp (disch := first | omega | (simp only [z1, z2]; omega) | (simp only [z1, z2]; done) | fail) only [z8, z4, z5, z9, z7, z1, z2, *]; exact rfl)) rfl rfl (res_cells (b := h.next + 3) rfl (by (simp (disch := first | omega | (simp only [z1, z2]; omega) | (simp only [z1, z2]; done) | fail) only [z8, z4, z5, z9, z7, z1, z2, *]; exact rfl)) rfl rfl res_nil)
  · refine wE_seq ?_; refine wE_region ?_; refine wO_val (a_box (by exact rfl) (by exact rfl)) ?_; refine wO_val (a_box (by exact rfl) (by exact rfl)) ?_; refine wO_val a_new ?_; refine wO_val a_new ?_; refine wO_nil ?_; refine kR_k (by simp only [keepE, dstE, geT, paramsE, cond_true, cond_false, Nat.beq]; exact rfl) ?_; refine kS_n ?_; refine wE_seq ?_; refine wE_seq ?_; refine wE_region ?_
    refine wO_val (a_faddr (by exact rfl)) ?_; refine wO_val (a_load (by exact rfl) (by (simp (disch := first | omega | (simp only [z1, z2]; omega) | (simp only [z1, z2]; done) | fail) only [z8, z4, z5, z9, z7, z1, z2, *]; exact rfl)) (by exact rfl)) ?_
    refine wO_val (a_num (by exact rfl) (by exact rfl) (by exact m_eqlF (by omega))) ?_; refine wO_nil ?_; refine kR_k (by simp only [keepE, dstE, geT, paramsE, cond_true, cond_false, Nat.beq]; exact rfl) ?_; refine kS_n ?_; refine wE_false (by exact rfl) ?_; refine wE_skip ?_; refine kS_n ?_; refine wE_seq ?_; refine wE_draw ?_
    refine wD_quiet rfl rfl rfl (by exact rfl) (by exact rfl) (by exact rfl) (a_iaddrA (i := 0) (by exact rfl) (by exact rfl) (by omega)) ?_
    refine wD_quiet rfl rfl rfl (by exact rfl) (by exact rfl) (by exact rfl) (a_load (by exact rfl) (by (simp (disch := first | omega | (simp only [z1, z2]; omega)) only [z3, z4, z5, z6, z7, z1, z2, *]; exact rfl)) (by exact rfl)) ?_
    refine wD_quiet rfl rfl rfl (by exact rfl) (by exact rfl) (by exact rfl) (a_faddr (by exact rfl)) ?_
    refine wD_quiet rfl rfl rfl (by exact rfl) (by exact rfl) (by exact rfl) (a_load (by exact rfl) (by (simp (disch := first | omega | (simp only [z1, z2]; omega) | (simp only [z1, z2]; done) | fail) only [z8, z4, z5, z9, z7, z1, z2, *]; exact rfl)) (by exact rfl)) ?_
    refine wD_quiet rfl rfl rfl (by exact rfl) (by exact rfl) (by exact rfl) (a_build (by exact rfl)) ?_; refine wD_quiet rfl rfl rfl (by exact rfl) (by exact rfl) (by exact rfl) (a_iaddrA (i := 0) (by exact rfl) (by exact rfl) (by omega)) ?_
    refine wD_quiet rfl rfl rfl (by exact rfl) (by exact rfl) (by exact rfl) (a_load (by exact rfl) (by (simp (disch := first | omega | (simp only [z1, z2]; omega)) only [z3, z4, z5, z6, z7, z1, z2, *]; exact rfl)) (by exact rfl)) ?_
    refine wD_quiet rfl rfl rfl (by exact rfl) (by exact rfl) (by exact rfl) (a_iaddrA (i := 1) (by exact rfl) (by exact rfl) (by omega)) ?_
    refine wD_quiet rfl rfl rfl (by exact rfl) (by exact rfl) (by exact rfl) (a_load (by exact rfl) (by (simp (disch := first | omega | (simp only [z1, z2]; omega)) only [z3, z4, z5, z6, z7, z1, z2, *]; exact rfl)) (by exact rfl)) ?_
    refine wD_quiet rfl rfl rfl (by exact rfl) (by exact rfl) (by exact rfl) (a_faddr (by exact rfl)) ?_
    refine wD_quiet rfl rfl rfl (by exact rfl) (by exact rfl) (by exact rfl) (a_load (by exact rfl) (by (simp (disch := first | omega | (simp only [z1, z2]; omega) | (simp only [z1, z2]; done) | fail) only [z8, z4, z5, z9, z7, z1, z2, *]; exact rfl)) (by exact rfl)) ?_
    refine wD_quiet rfl rfl rfl (by exact rfl) (by exact rfl) (by exact rfl) (a_num (by exact rfl) (by exact rfl) (by exact m_sub (wrapA_i64 (by omega) (by omega)))) ?_; refine wD_quiet rfl rfl rfl (by exact rfl) (by exact rfl) (by exact rfl) (a_mov (by exact rfl)) ?_; refine wD_quiet rfl rfl rfl (by exact rfl) (by exact rfl) (by exact rfl) (a_nilchk (by exact rfl)) ?_
    refine wD_quiet rfl rfl rfl (by exact rfl) (by exact rfl) (by exact rfl) (a_faddr (by exact rfl)) ?_; refine wD_quiet rfl rfl rfl (by exact rfl) (by exact rfl) (by exact rfl) (a_faddr (by exact rfl)) ?_
    refine wD_quiet rfl rfl rfl (by exact rfl) (by exact rfl) (by exact rfl) (a_load (by exact rfl) (by (simp (disch := first | omega | (simp only [z1, z2]; omega)) only [z3, z4, z5, z6, z7, z1, z2, *]; exact rfl)) (by exact rfl)) ?_
    refine wD_quiet rfl rfl rfl (by exact rfl) (by exact rfl) (by exact rfl) (a_num (by exact rfl) (by exact rfl) (by exact m_sub (wrapA_i64 (by omega) (by omega)))) ?_; refine wD_quiet rfl rfl rfl (by exact rfl) (by exact rfl) (by exact rfl) (a_build (by exact rfl)) ?_
    refine wD_store rfl rfl rfl (by exact rfl) (by exact rfl) (by exact rfl) (by (simp (disch := first | omega | (simp only [z1, z2]; omega) | (simp only [z1, z2]; done) | fail) only [z8, z4, z5, z9, z7, z1, z2, *]; exact rfl)) (by exact rfl) (by exact rfl) (by (simp only [z1, z2]; omega)) (by (simp only [z1, z2]; omega)) (by apply ra_keepC rfl (rq_quiet rfl (a_build (by exact rfl)) (by exact sv_agg (by refine sl_cons (s1_int _ _) ?_; refine sl_cons (s1_int _ _) ?_; exact sl_nil))) rfl; apply ra_keepC rfl (rq_quiet rfl (a_num (by exact rfl) (by exact rfl) (by exact m_sub (wrapA_i64 (by omega) (by omega)))) (by exact sv_int _ _)) rfl; apply ra_keepC rfl (rq_quiet rfl (a_load (by exact rfl) (by (simp (disch := first | omega | (simp only [z1, z2]; omega)) only [z3, z4, z5, z6, z7, z1, z2, *]; exact rfl)) (by exact rfl)) (by exact sv_int _ _)) rfl; apply ra_keepC rfl (rq_quiet rfl (a_faddr (by exact rfl)) (by exact sv_ptr _)) rfl; apply ra_keepC rfl (rq_quiet rfl (a_faddr (by exact rfl)) (by exact sv_ptr _)) rfl; apply ra_keepC rfl (rq_quiet rfl (a_nilchk (by exact rfl)) (by exact sv_ptr _)) rfl; apply ra_keepC rfl (rq_quiet rfl (a_mov (by exact rfl)) (by exact sv_ptr _)) rfl; apply ra_keepC rfl (rq_quiet rfl (a_num (by exact rfl) (by exact rfl) (by exact m_sub (wrapA_i64 (by omega) (by omega)))) (by exact sv_int _ _)) rfl; apply ra_keepC rfl (rq_quiet rfl (a_load (by exact rfl) (by (simp (disch := first | omega | (simp only [z1, z2]; omega) | (simp only [z1, z2]; done) | fail) only [z8, z4, z5, z9, z7, z1, z2, *]; exact rfl)) (by exact rfl)) (by exact sv_int _ _)) rfl; apply ra_keepC rfl (rq_quiet rfl (a_faddr (by exact rfl)) (by exact sv_ptr _)) rfl; apply ra_keepC rfl (rq_quiet rfl (a_load (by exact rfl) (by (simp (disch := first | omega | (simp only [z1, z2]; omega)) only [z3, z4, z5, z6, z7, z1, z2, *]; exact rfl)) (by exact rfl)) (by exact sv_int _ _)) rfl; apply ra_keepC rfl (rq_quiet rfl (a_iaddrA (i := 1) (by exact rfl) (by exact rfl) (by omega)) (by exact sv_ptr _)) rfl; apply ra_keepC rfl (rq_quiet rfl (a_load (by exact rfl) (by (simp (disch := first | omega | (simp only [z1, z2]; omega)) only [z3, z4, z5, z6, z7, z1, z2, *]; exact rfl)) (by exact rfl)) (by exact sv_int _ _)) rfl; apply ra_keepC rfl (rq_quiet rfl (a_iaddrA (i := 0) (by exact rfl) (by exact rfl) (by omega)) (by exact sv_ptr _)) rfl; apply ra_dropC rfl; apply ra_dropC rfl; apply ra_dropC rfl; apply ra_dropC rfl; apply ra_dropC rfl; exact ra_nil) ?_
    refine wD_store rfl rfl rfl (by exact rfl) (by exact rfl) (by exact rfl) (by (simp (disch := first | omega | (simp only [z1, z2]; omega) | (simp only [z1, z2]; done) | fail) only [z8, z4, z5, z9, z7, z1, z2, *]; exact rfl)) (by exact rfl) (by exact rfl) (by (simp only [z1, z2]; omega)) (by (simp only [z1, z2]; omega)) (by apply ra_dropC rfl; apply ra_dropC rfl; apply ra_dropC rfl; apply ra_dropC rfl; apply ra_dropC rfl; apply ra_dropC rfl; apply ra_dropC rfl; apply ra_dropC rfl; apply ra_dropC rfl; apply ra_dropC rfl; apply ra_dropC rfl; apply ra_dropC rfl; apply ra_dropC rfl; apply ra_dropC rfl; exact ra_nil) ?_
    refine wD_nil ?_; refine kR_k (by simp only [keepE, dstE, geT, paramsE, cond_true, cond_false, Nat.beq]; exact rfl) ?_; refine kS_n ?_; refine wE_ret ?_
    refine endP_ret ((Heap.log_wr_new (by (simp only [z1, z2]; omega))).trans ((Heap.log_wr_new (by (simp only [z1, z2]; omega))).trans hr.log)) (vs := [pairV (oneB (4, x2) a b), pairV (twoB kerf (4, x2) a b)]) ?_ rfl
    refine res_cells (b := h.next + 2) rfl (by (simp (disch := first | omega | (simp only [z1, z2]; omega) | (simp only [z1, z2]; done) | fail) only [z8, z4, z5, z9, z7, z1, z2, *]; exact rfl)) rfl rfl (res_cells (b := h.next + 3) rfl (by (simp (disch := first | omega | (simp only [z1, z2]; omega) | (simp only [z1, z2]; done) | fail) only [z8, z4, z5, z9, z7, z1, z2, *]; exact rfl)) rfl rfl res_nil)
end Go.A.Pk
end
