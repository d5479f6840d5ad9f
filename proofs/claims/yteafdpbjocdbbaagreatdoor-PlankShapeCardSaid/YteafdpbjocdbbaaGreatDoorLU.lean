/- Walks of CheckSaw and of functions that make saws. -/
import Derived.Test.YteafdpbjocdbbaaGreatDoorLD
import Derived.Test.YteafdpbjocdbbaaGreatDoorLG
set_option linter.all false
section
set_option maxRecDepth 100000
namespace Go.A.Pk
variable {T : Nat → Option AFunc}
structure Kd where
  id : Int
  w : Int
  h : Int
  worth : Int
  turn : Bool
def kc (k : Kd) : List Value := [.int .i64 k.id, .int .i64 k.w, .int .i64 k.h, .int .i64 k.worth, .bool k.turn]
def kcs : List Kd → List Value
  | [] => []
  | k :: l => kc k ++ kcs l
def ka (k : Kd) : Value := .agg #[.int .i64 k.id, .int .i64 k.w, .int .i64 k.h, .int .i64 k.worth, .bool k.turn]
def Right (k : Kd) : Prop := (1 ≤ k.id ∧ k.id ≤ 1000000) ∧ (1 ≤ k.w ∧ k.w ≤ 16) ∧ (1 ≤ k.h ∧ k.h ≤ 16) ∧ (0 ≤ k.worth ∧ k.worth ≤ 1000000)
instance (k : Kd) : Decidable (Right k) := by unfold Right; infer_instance
theorem kcs_length : ∀ (l : List Kd), (kcs l).length = l.length * 5
  | [] => rfl
  | k :: l => by simp [kcs, kc, kcs_length l]; omega
theorem kcs_drop : ∀ (l : List Kd) (i : Nat), (kcs l).drop (i * 5) = kcs (l.drop i)
  | [], i => by simp [kcs]
  | k :: l, 0 => by simp
  | k :: l, i + 1 => by
    rw [List.drop_succ_cons, ← kcs_drop l i, show (i + 1) * 5 = 5 + i * 5 by omega, ← List.drop_drop]
    rfl
theorem kcs_take : ∀ (l : List Kd) (i : Nat), (kcs l).take (i * 5) = kcs (l.take i)
  | [], i => by simp [kcs]
  | k :: l, 0 => by simp [kcs]
  | k :: l, i + 1 => by
    rw [List.take_succ_cons]
    show (kc k ++ kcs l).take _ = kc k ++ kcs (l.take i)
    rw [← kcs_take l i, show (i + 1) * 5 = (kc k).length + i * 5 by simp [kc]; omega, List.take_length_add_append]
theorem slice_elem {h : Heap} {b o n : Nat} {l : List Kd} (s : SliceAt h b o n 5 (kcs l)) {i : Nat} {k : Kd} (hi : l[i]? = some k) : ∃ vs own t, h.get b = some (.cells vs own t) ∧ ltake 5 (ldrop (o + i * 5) vs) = kc k := by
  obtain ⟨vs, own, t, h1, h2⟩ := s.obj
  refine ⟨vs, own, t, h1, ?_⟩
  rw [ltake_eq, ldrop_eq] at h2 ⊢
  have hl := s.len
  rw [kcs_length] at hl
  have hin : i < l.length := (List.getElem?_eq_some_iff.1 hi).1
  have h3 : (vs.drop (o + i * 5)).take 5 = (((vs.drop o).take (n * 5)).drop (i * 5)).take 5 := by
    rw [List.drop_take, List.drop_drop, List.take_take, Nat.min_eq_left (by omega)]
  rw [h3, h2, kcs_drop]
  have : l.drop i = k :: l.drop (i + 1) := by
    rw [List.drop_eq_getElem_cons hin]
    congr 1
    rw [List.getElem?_eq_getElem hin] at hi
    injection hi
  rw [this]
  rfl
theorem in77T (hp : primAS T) (hf : T 77 = some f77) {h : Heap} (hr : Rdy h) {n a b : Int} (hn : a ≤ n ∧ n ≤ b) : Pu T 77 [.int .i64 n, .int .i64 a, .int .i64 b] h (.bool true) := by
  refine .of hp hf hr rfl ?_
  refine wE_seq ?_; refine wE_region ?_; refine wO_val (a_mov (by exact rfl)) ?_; refine wO_nil ?_; refine kR_k (by simp only [keepE, dstE, geT, paramsE, cond_true, cond_false, Nat.beq]; exact rfl) ?_; refine kS_n ?_; refine wE_seq ?_; refine wE_region ?_; refine wO_val (a_mov (by exact rfl)) ?_; refine wO_val (a_mov (by exact rfl)) ?_
  refine wO_val (a_num (by exact rfl) (by exact rfl) (by exact m_geqT (by omega))) ?_; refine wO_val (a_mov (by exact rfl)) ?_; refine wO_on (by exact rfl) ?_; refine wO_val (a_mov (by exact rfl)) ?_; refine wO_on (by exact rfl) ?_; refine wO_val (a_mov (by exact rfl)) ?_; refine wO_on (by exact rfl) ?_; refine wO_val (a_num (by exact rfl) (by exact rfl) (by exact m_geqT (by omega))) ?_
  refine wO_val (a_pickT (by exact rfl) (by exact rfl)) ?_; refine wO_val (a_mov (by exact rfl)) ?_; refine wO_nil ?_; refine kR_k (by simp only [keepE, dstE, geT, paramsE, cond_true, cond_false, Nat.beq]; exact rfl) ?_; refine kS_n ?_; refine wE_ret ?_
  exact endP_ret hr.log rfl rfl
theorem in77F (hp : primAS T) (hf : T 77 = some f77) {h : Heap} (hr : Rdy h) {n a b : Int} (hn : ¬ (a ≤ n ∧ n ≤ b)) : Pu T 77 [.int .i64 n, .int .i64 a, .int .i64 b] h (.bool false) := by
  refine .of hp hf hr rfl ?_
  by_cases h1 : a ≤ n
  · refine wE_seq ?_; refine wE_region ?_; refine wO_val (a_mov (by exact rfl)) ?_; refine wO_nil ?_; refine kR_k (by simp only [keepE, dstE, geT, paramsE, cond_true, cond_false, Nat.beq]; exact rfl) ?_; refine kS_n ?_; refine wE_seq ?_; refine wE_region ?_; refine wO_val (a_mov (by exact rfl)) ?_; refine wO_val (a_mov (by exact rfl)) ?_
    refine wO_val (a_num (by exact rfl) (by exact rfl) (by exact m_geqT (by omega))) ?_; refine wO_val (a_mov (by exact rfl)) ?_; refine wO_on (by exact rfl) ?_; refine wO_val (a_mov (by exact rfl)) ?_; refine wO_on (by exact rfl) ?_; refine wO_val (a_mov (by exact rfl)) ?_; refine wO_on (by exact rfl) ?_; refine wO_val (a_num (by exact rfl) (by exact rfl) (by exact m_geqF (by omega))) ?_
    refine wO_val (a_pickT (by exact rfl) (by exact rfl)) ?_; refine wO_val (a_mov (by exact rfl)) ?_; refine wO_nil ?_; refine kR_k (by simp only [keepE, dstE, geT, paramsE, cond_true, cond_false, Nat.beq]; exact rfl) ?_; refine kS_n ?_; refine wE_ret ?_
    exact endP_ret hr.log rfl rfl
  · refine wE_seq ?_; refine wE_region ?_; refine wO_val (a_mov (by exact rfl)) ?_; refine wO_nil ?_; refine kR_k (by simp only [keepE, dstE, geT, paramsE, cond_true, cond_false, Nat.beq]; exact rfl) ?_; refine kS_n ?_; refine wE_seq ?_; refine wE_region ?_; refine wO_val (a_mov (by exact rfl)) ?_; refine wO_val (a_mov (by exact rfl)) ?_
    refine wO_val (a_num (by exact rfl) (by exact rfl) (by exact m_geqF (by omega))) ?_; refine wO_val (a_mov (by exact rfl)) ?_; refine wO_off (by exact rfl) (by exact rfl) ?_; refine wO_off (by exact rfl) (by exact rfl) ?_; refine wO_off (by exact rfl) (by exact rfl) ?_; refine wO_val (a_pickF (by exact rfl) (by exact rfl)) ?_; refine wO_val (a_mov (by exact rfl)) ?_; refine wO_nil ?_
    refine kR_k (by simp only [keepE, dstE, geT, paramsE, cond_true, cond_false, Nat.beq]; exact rfl) ?_; refine kS_n ?_; refine wE_ret ?_
    exact endP_ret hr.log rfl rfl
theorem right117 (hp : primAS T) (hf : T 117 = some f117) (hf7 : T 77 = some f77) {h : Heap} (hr : Rdy h) (k : Kd) : Pu T 117 [ka k] h (.bool (decide (Right k))) := by
  by_cases c : Right k
  · rw [decide_eq_true c]
    unfold Right at c
    refine .of hp hf hr rfl ?_
    refine wE_seq ?_; refine wE_region ?_; refine wO_val (a_box (by exact rfl) (by exact rfl)) ?_; refine wO_val (a_mov (by exact rfl)) ?_; refine wO_nil ?_; refine kR_k (by simp only [keepE, dstE, geT, paramsE, cond_true, cond_false, Nat.beq]; exact rfl) ?_; refine kS_n ?_; refine wE_seq ?_; refine wE_region ?_; refine wO_val (a_faddr (by exact rfl)) ?_
    refine wO_val (a_load (by exact rfl) (by (simp (disch := first | omega | (simp only [z1, z2]; omega)) only [z3, z4, z5, z6, z7, z1, z2, *]; exact rfl)) (by exact rfl)) ?_
    refine wO_call (a_call (by exact rfl) (by exact rfl) (by exact rfl) (by exact rfl)) ?_
    refine FW.pu (in77T hp hf7 (.of (hr.wf.push _)) (by omega)) ?_
    refine wO_val (a_mov (by exact rfl)) ?_; refine wO_on (by exact rfl) ?_; refine wO_val (a_faddr (by exact rfl)) ?_; refine wO_on (by exact rfl) ?_
    refine wO_val (a_load (by exact rfl) (by (simp (disch := first | omega | (simp only [z1, z2]; omega)) only [z3, z4, z5, z6, z7, z1, z2, *]; exact rfl)) (by exact rfl)) ?_; refine wO_on (by exact rfl) ?_
    refine wO_call (a_call (by exact rfl) (by exact rfl) (by exact rfl) (by exact rfl)) ?_
    refine FW.pu (in77T hp hf7 (.of (hr.wf.push _)) (by omega)) ?_
    refine wO_val (a_pickT (by exact rfl) (by exact rfl)) ?_; refine wO_val (a_mov (by exact rfl)) ?_; refine wO_on (by exact rfl) ?_; refine wO_val (a_faddr (by exact rfl)) ?_; refine wO_on (by exact rfl) ?_
    refine wO_val (a_load (by exact rfl) (by (simp (disch := first | omega | (simp only [z1, z2]; omega)) only [z3, z4, z5, z6, z7, z1, z2, *]; exact rfl)) (by exact rfl)) ?_; refine wO_on (by exact rfl) ?_
    refine wO_call (a_call (by exact rfl) (by exact rfl) (by exact rfl) (by exact rfl)) ?_
    refine FW.pu (in77T hp hf7 (.of (hr.wf.push _)) (by omega)) ?_
    refine wO_val (a_pickT (by exact rfl) (by exact rfl)) ?_; refine wO_val (a_mov (by exact rfl)) ?_; refine wO_on (by exact rfl) ?_; refine wO_val (a_faddr (by exact rfl)) ?_; refine wO_on (by exact rfl) ?_
    refine wO_val (a_load (by exact rfl) (by (simp (disch := first | omega | (simp only [z1, z2]; omega)) only [z3, z4, z5, z6, z7, z1, z2, *]; exact rfl)) (by exact rfl)) ?_; refine wO_on (by exact rfl) ?_
    refine wO_call (a_call (by exact rfl) (by exact rfl) (by exact rfl) (by exact rfl)) ?_
    refine FW.pu (in77T hp hf7 (.of (hr.wf.push _)) (by omega)) ?_
    refine wO_val (a_pickT (by exact rfl) (by exact rfl)) ?_; refine wO_val (a_mov (by exact rfl)) ?_; refine wO_nil ?_; refine kR_k (by simp only [keepE, dstE, geT, paramsE, cond_true, cond_false, Nat.beq]; exact rfl) ?_; refine kS_n ?_; refine wE_ret ?_
    exact endP_ret hr.log rfl rfl
  · rw [decide_eq_false c]
    unfold Right at c
    refine .of hp hf hr rfl ?_
    refine wE_seq ?_; refine wE_region ?_; refine wO_val (a_box (by exact rfl) (by exact rfl)) ?_; refine wO_val (a_mov (by exact rfl)) ?_; refine wO_nil ?_; refine kR_k (by simp only [keepE, dstE, geT, paramsE, cond_true, cond_false, Nat.beq]; exact rfl) ?_; refine kS_n ?_; refine wE_seq ?_; refine wE_region ?_; refine wO_val (a_faddr (by exact rfl)) ?_
    refine wO_val (a_load (by exact rfl) (by (simp (disch := first | omega | (simp only [z1, z2]; omega)) only [z3, z4, z5, z6, z7, z1, z2, *]; exact rfl)) (by exact rfl)) ?_
    refine wO_call (a_call (by exact rfl) (by exact rfl) (by exact rfl) (by exact rfl)) ?_
    by_cases c1 : 1 ≤ k.id ∧ k.id ≤ 1000000
    · refine FW.pu (in77T hp hf7 (.of (hr.wf.push _)) c1) ?_
      refine wO_val (a_mov (by exact rfl)) ?_; refine wO_on (by exact rfl) ?_; refine wO_val (a_faddr (by exact rfl)) ?_; refine wO_on (by exact rfl) ?_
      refine wO_val (a_load (by exact rfl) (by (simp (disch := first | omega | (simp only [z1, z2]; omega)) only [z3, z4, z5, z6, z7, z1, z2, *]; exact rfl)) (by exact rfl)) ?_; refine wO_on (by exact rfl) ?_
      refine wO_call (a_call (by exact rfl) (by exact rfl) (by exact rfl) (by exact rfl)) ?_
      by_cases c2 : 1 ≤ k.w ∧ k.w ≤ 16
      · refine FW.pu (in77T hp hf7 (.of (hr.wf.push _)) c2) ?_
        refine wO_val (a_pickT (by exact rfl) (by exact rfl)) ?_; refine wO_val (a_mov (by exact rfl)) ?_; refine wO_on (by exact rfl) ?_; refine wO_val (a_faddr (by exact rfl)) ?_; refine wO_on (by exact rfl) ?_
        refine wO_val (a_load (by exact rfl) (by (simp (disch := first | omega | (simp only [z1, z2]; omega)) only [z3, z4, z5, z6, z7, z1, z2, *]; exact rfl)) (by exact rfl)) ?_; refine wO_on (by exact rfl) ?_
        refine wO_call (a_call (by exact rfl) (by exact rfl) (by exact rfl) (by exact rfl)) ?_
        by_cases c3 : 1 ≤ k.h ∧ k.h ≤ 16
        · refine FW.pu (in77T hp hf7 (.of (hr.wf.push _)) c3) ?_
          refine wO_val (a_pickT (by exact rfl) (by exact rfl)) ?_; refine wO_val (a_mov (by exact rfl)) ?_; refine wO_on (by exact rfl) ?_; refine wO_val (a_faddr (by exact rfl)) ?_; refine wO_on (by exact rfl) ?_
          refine wO_val (a_load (by exact rfl) (by (simp (disch := first | omega | (simp only [z1, z2]; omega)) only [z3, z4, z5, z6, z7, z1, z2, *]; exact rfl)) (by exact rfl)) ?_; refine wO_on (by exact rfl) ?_
          refine wO_call (a_call (by exact rfl) (by exact rfl) (by exact rfl) (by exact rfl)) ?_
          refine FW.pu (in77F hp hf7 (.of (hr.wf.push _)) (by omega)) ?_
          refine wO_val (a_pickT (by exact rfl) (by exact rfl)) ?_; refine wO_val (a_mov (by exact rfl)) ?_; refine wO_nil ?_; refine kR_k (by simp only [keepE, dstE, geT, paramsE, cond_true, cond_false, Nat.beq]; exact rfl) ?_; refine kS_n ?_; refine wE_ret ?_
          exact endP_ret hr.log rfl rfl
        · refine FW.pu (in77F hp hf7 (.of (hr.wf.push _)) c3) ?_
          refine wO_val (a_pickT (by exact rfl) (by exact rfl)) ?_; refine wO_val (a_mov (by exact rfl)) ?_; refine wO_off (by exact rfl) (by exact rfl) ?_; refine wO_off (by exact rfl) (by exact rfl) ?_; refine wO_off (by exact rfl) (by exact rfl) ?_; refine wO_val (a_pickF (by exact rfl) (by exact rfl)) ?_; refine wO_val (a_mov (by exact rfl)) ?_; refine wO_nil ?_
          refine kR_k (by simp only [keepE, dstE, geT, paramsE, cond_true, cond_false, Nat.beq]; exact rfl) ?_; refine kS_n ?_; refine wE_ret ?_
          exact endP_ret hr.log rfl rfl
      · refine FW.pu (in77F hp hf7 (.of (hr.wf.push _)) c2) ?_
        refine wO_val (a_pickT (by exact rfl) (by exact rfl)) ?_; refine wO_val (a_mov (by exact rfl)) ?_; refine wO_off (by exact rfl) (by exact rfl) ?_; refine wO_off (by exact rfl) (by exact rfl) ?_; refine wO_off (by exact rfl) (by exact rfl) ?_; refine wO_val (a_pickF (by exact rfl) (by exact rfl)) ?_; refine wO_val (a_mov (by exact rfl)) ?_; refine wO_off (by exact rfl) (by exact rfl) ?_
        refine wO_off (by exact rfl) (by exact rfl) ?_; refine wO_off (by exact rfl) (by exact rfl) ?_; refine wO_val (a_pickF (by exact rfl) (by exact rfl)) ?_; refine wO_val (a_mov (by exact rfl)) ?_; refine wO_nil ?_; refine kR_k (by simp only [keepE, dstE, geT, paramsE, cond_true, cond_false, Nat.beq]; exact rfl) ?_; refine kS_n ?_; refine wE_ret ?_
        exact endP_ret hr.log rfl rfl
    · refine FW.pu (in77F hp hf7 (.of (hr.wf.push _)) c1) ?_
      refine wO_val (a_mov (by exact rfl)) ?_; refine wO_off (by exact rfl) (by exact rfl) ?_; refine wO_off (by exact rfl) (by exact rfl) ?_; refine wO_off (by exact rfl) (by exact rfl) ?_; refine wO_val (a_pickF (by exact rfl) (by exact rfl)) ?_; refine wO_val (a_mov (by exact rfl)) ?_; refine wO_off (by exact rfl) (by exact rfl) ?_; refine wO_off (by exact rfl) (by exact rfl) ?_
      refine wO_off (by exact rfl) (by exact rfl) ?_; refine wO_val (a_pickF (by exact rfl) (by exact rfl)) ?_; refine wO_val (a_mov (by exact rfl)) ?_; refine wO_off (by exact rfl) (by exact rfl) ?_; refine wO_off (by exact rfl) (by exact rfl) ?_; refine wO_off (by exact rfl) (by exact rfl) ?_; refine wO_val (a_pickF (by exact rfl) (by exact rfl)) ?_; refine wO_val (a_mov (by exact rfl)) ?_
      refine wO_nil ?_; refine kR_k (by simp only [keepE, dstE, geT, paramsE, cond_true, cond_false, Nat.beq]; exact rfl) ?_; refine kS_n ?_; refine wE_ret ?_
      exact endP_ret hr.log rfl rfl
theorem same119 (hp : primAS T) (hf : T 119 = some f119) {h : Heap} (hr : Rdy h) (x y : Kd) {b s : Nat} {own : Bool} (hb : h.get b = some (.cells (kc y) own s)) (hlt : b < h.next) : Pu T 119 [ka x, .pointer (some ⟨b, 0, none⟩)] h (.bool (x.id == y.id)) := by
  refine .of hp hf hr rfl ?_
  refine wE_seq ?_; refine wE_region ?_; refine wO_val (a_box (by exact rfl) (by exact rfl)) ?_; refine wO_val (a_mov (by exact rfl)) ?_; refine wO_nil ?_; refine kR_k (by simp only [keepE, dstE, geT, paramsE, cond_true, cond_false, Nat.beq]; exact rfl) ?_; refine kS_n ?_; refine wE_seq ?_; refine wE_region ?_; refine wO_val (a_faddr (by exact rfl)) ?_
  refine wO_val (a_load (by exact rfl) (by (simp (disch := first | omega | (simp only [z1, z2]; omega)) only [z3, z4, z5, z6, z7, z1, z2, *]; exact rfl)) (by exact rfl)) ?_; refine wO_val (a_faddr (by exact rfl)) ?_
  refine wO_val (a_load (by exact rfl) (by (simp (disch := first | omega | (simp only [z1, z2]; omega)) only [z3, z4, z5, z6, z7, z1, z2, *]; exact rfl)) (by exact rfl)) ?_; refine wO_val (a_num (by exact rfl) (by exact rfl) (by exact m_eql)) ?_; refine wO_val (a_mov (by exact rfl)) ?_
  refine wO_nil ?_; refine kR_k (by simp only [keepE, dstE, geT, paramsE, cond_true, cond_false, Nat.beq]; exact rfl) ?_; refine kS_n ?_; refine wE_ret ?_
  exact endP_ret hr.log rfl rfl
end Go.A.Pk
end
section
set_option maxRecDepth 100000
namespace Go.A.Pk
variable {T : Nat → Option AFunc}
def idxK (p : Kd → Bool) (l : List Kd) : Int := match l.findIdx? p with
  | some i => i
  | none => -1
theorem idxK_at {p : Kd → Bool} {l : List Kd} {i : Nat} {k : Kd} (hi : l[i]? = some k) (hp : p k = true) (hj : ∀ (j : Nat) (k' : Kd), j < i → l[j]? = some k' → p k' = false) : idxK p l = i := by
  have : l.findIdx? p = some i := by
    rw [List.findIdx?_eq_some_iff_getElem]
    obtain ⟨h1, h2⟩ := List.getElem?_eq_some_iff.1 hi
    refine ⟨h1, by rw [h2]; exact hp, fun j hji => ?_⟩
    have := hj j l[j] hji (List.getElem?_eq_getElem (by omega))
    simp [this]
  simp [idxK, this]
theorem idxK_none {p : Kd → Bool} {l : List Kd} (hj : ∀ (j : Nat) (k' : Kd), l[j]? = some k' → p k' = false) : idxK p l = -1 := by
  have : l.findIdx? p = none := by
    rw [List.findIdx?_eq_none_iff]
    intro x hx
    obtain ⟨j, hj1, rfl⟩ := List.mem_iff_getElem.1 hx
    exact hj j _ (List.getElem?_eq_getElem hj1)
  simp [idxK, this]
theorem idxK_any (p : Kd → Bool) (l : List Kd) : decide (0 ≤ idxK p l) = l.any p := by
  unfold idxK
  cases h : l.findIdx? p with
  | none =>
    have : l.any p = false := by
      rw [List.findIdx?_eq_none_iff] at h
      rw [List.any_eq_false]
      intro x hx
      simp [h x hx]
    rw [this]; rfl
  | some i =>
    have : l.any p = true := by
      rw [List.findIdx?_eq_some_iff_getElem] at h
      obtain ⟨h1, h2, _⟩ := h
      rw [List.any_eq_true]
      exact ⟨_, List.getElem_mem h1, h2⟩
    rw [this]; simp
theorem index147 (hp : primAS T) (hf : T 147 = some f147) {h : Heap} (hr : Rdy h) {v : Value} {n : Nat} {l : List Kd} (hs : SliceOf h 5 v n (kcs l)) (hn : n < 1000000) {g : Nat} {cap : Array Value} {p : Kd → Bool}
    (hg : ∀ k ∈ l, Pu T g (ka k :: cap.toList) h (.bool (p k))) : Pu T 147 [v, .func (.func g) #[] cap] h (.int .i64 (idxK p l)) := by
  obtain ⟨ob, nx, lg⟩ := h
  obtain rfl : lg = [] := hr.log
  have hlen : l.length = n := by have := hs.len; rw [kcs_length] at this; omega
  obtain ⟨a, c, rfl⟩ := hs.form
  refine .of hp hf hr rfl ?_
  refine wE_seq ?_; refine wE_region ?_; refine wO_val (a_mov (by exact rfl)) ?_; refine wO_nil ?_; refine kR_k (by simp only [keepE, dstE, geT, paramsE, cond_true, cond_false, Nat.beq]; exact rfl) ?_; refine kS_n ?_; refine wE_seq ?_; refine wE_seq ?_; refine wE_region ?_; refine wO_val (a_mov (by exact rfl)) ?_; refine wO_val (a_len1 (by exact rfl)) ?_; refine wO_val (a_mov (by exact rfl)) ?_
  refine wO_nil ?_; refine kR_k (by simp only [keepE, dstE, geT, paramsE, cond_true, cond_false, Nat.beq]; exact rfl) ?_; refine kS_n ?_; refine wE_block ?_
  refine wE_loop (fun k e ds h' => ∃ i : Nat, i ≤ n ∧ k = n - i ∧ e = [(0, .slice a n c), (1, .func (.func g) #[] cap), (7, .int .i64 n), (8, .int .i64 i)] ∧ ds = [] ∧ h' = ⟨ob, nx, []⟩ ∧ ∀ (j : Nat) (k' : Kd), j < i → l[j]? = some k' → p k' = false)
    ⟨0, Nat.zero_le _, rfl, rfl, rfl, rfl, fun j k' hj => absurd hj (Nat.not_lt_zero j)⟩ ?_
  rintro k e ds h' ⟨i, hi, rfl, rfl, rfl, rfl, hpre⟩
  by_cases hlt : i < n
  · obtain ⟨x, hx⟩ : ∃ x, l[i]? = some x := ⟨l[i], List.getElem?_eq_getElem (by omega)⟩
    rcases hs.inv with ⟨_, _, h0, _⟩ | ⟨b, o, cap', hv, s, _⟩
    · omega
    · cases hv
      obtain ⟨vs, own, t, g1, g2⟩ := slice_elem s hx
      refine wE_seq ?_; refine wE_region ?_; refine wO_val (a_num (by exact rfl) (by exact rfl) (by exact m_geqT (by omega))) ?_; refine wO_nil ?_; refine kR_k (by simp only [keepE, dstE, geT, paramsE, cond_true, cond_false, Nat.beq]; exact rfl) ?_; refine kS_n ?_; refine wE_seq ?_; refine wE_true (by exact rfl) ?_; refine wE_skip ?_; refine kS_n ?_; refine wE_seq ?_; refine wE_block ?_; refine wE_seq ?_
      refine wE_region ?_; refine wO_val (a_mov (by exact rfl)) ?_; refine wO_val (a_mov (by exact rfl)) ?_; refine wO_nil ?_; refine kR_k (by simp only [keepE, dstE, geT, paramsE, cond_true, cond_false, Nat.beq]; exact rfl) ?_; refine kS_n ?_; refine wE_seq ?_; refine wE_region ?_; refine wO_val (a_mov (by exact rfl)) ?_; refine wO_val (a_mov (by exact rfl)) ?_; refine wO_val (a_mov (by exact rfl)) ?_
      refine wO_val (a_iaddrS (by exact rfl) (by exact rfl) hlt) ?_
      refine wO_val (a_loadN (by exact rfl) g1 g2 (by exact rfl)) ?_
      refine wO_call (a_call (by exact rfl) (by exact rfl) (by exact rfl) (by exact rfl)) ?_
      refine FW.pu (hg x (List.mem_of_getElem? hx)) ?_
      cases hpx : p x with
      | true =>
        refine wO_nil ?_; refine kR_k (by simp only [keepE, dstE, geT, paramsE, cond_true, cond_false, Nat.beq]; exact rfl) ?_; refine kS_n ?_; refine wE_true (by exact rfl) ?_; refine wE_seq ?_; refine wE_region ?_; refine wO_val (a_mov (by exact rfl)) ?_; refine wO_val (a_mov (by exact rfl)) ?_; refine wO_nil ?_
        refine kR_k (by simp only [keepE, dstE, geT, paramsE, cond_true, cond_false, Nat.beq]; exact rfl) ?_; refine kS_n ?_; refine wE_ret ?_; refine kB_r ?_; refine kS_r ?_; refine kS_r ?_; refine kB_r ?_; refine kS_r ?_
        refine endP_ret rfl rfl ?_
        show Value.int .i64 i = _
        rw [idxK_at hx hpx hpre]
      | false =>
        refine wO_nil ?_; refine kR_k (by simp only [keepE, dstE, geT, paramsE, cond_true, cond_false, Nat.beq]; exact rfl) ?_; refine kS_n ?_; refine wE_false (by exact rfl) ?_; refine wE_skip ?_; refine kB_n ?_; refine kS_n ?_; refine wE_region ?_; refine wO_val (a_num (by exact rfl) (by exact rfl) (by exact m_inc (by omega))) ?_; refine wO_val (a_mov (by exact rfl)) ?_; refine wO_nil ?_
        refine kR_k (by simp only [keepE, dstE, geT, paramsE, cond_true, cond_false, Nat.beq]; exact rfl) ?_; refine kS_n ?_
        refine ⟨n - (i + 1), by omega, i + 1, by omega, rfl, rfl, rfl, rfl, fun j k' hj hk' => ?_⟩
        by_cases hji : j < i
        · exact hpre j k' hji hk'
        · obtain rfl : j = i := by omega
          rw [hx] at hk'; cases hk'; exact hpx
  · obtain rfl : i = n := by omega
    refine wE_seq ?_; refine wE_region ?_; refine wO_val (a_num (by exact rfl) (by exact rfl) (by exact m_geqF (by omega))) ?_; refine wO_nil ?_; refine kR_k (by simp only [keepE, dstE, geT, paramsE, cond_true, cond_false, Nat.beq]; exact rfl) ?_; refine kS_n ?_; refine wE_seq ?_; refine wE_false (by exact rfl) ?_; refine wE_exit ?_; refine kS_e ?_; refine kS_e ?_; refine kB_e ?_; refine kS_n ?_
    refine wE_seq ?_; refine wE_region ?_; refine wO_val (a_mov (by exact rfl)) ?_; refine wO_nil ?_; refine kR_k (by simp only [keepE, dstE, geT, paramsE, cond_true, cond_false, Nat.beq]; exact rfl) ?_; refine kS_n ?_; refine wE_ret ?_
    refine endP_ret rfl rfl ?_
    show Value.int .i64 (-1) = _
    rw [idxK_none fun j k' hk' => hpre j k' (by have := (List.getElem?_eq_some_iff.1 hk').1; omega) hk']
theorem contains118 (hp : primAS T) (hf : T 118 = some f118) (hf7 : T 147 = some f147) {h : Heap} (hr : Rdy h) {v : Value} {n : Nat} {l : List Kd} (hs : SliceOf h 5 v n (kcs l)) (hn : n < 1000000) {g : Nat} {cap : Array Value} {p : Kd → Bool}
    (hg : ∀ k ∈ l, Pu T g (ka k :: cap.toList) h (.bool (p k))) : Pu T 118 [v, .func (.func g) #[] cap] h (.bool (l.any p)) := by
  obtain ⟨ob, nx, lg⟩ := h
  obtain rfl : lg = [] := hr.log
  refine .of hp hf hr rfl ?_
  refine wE_seq ?_; refine wE_region ?_; refine wO_val (a_mov (by exact rfl)) ?_; refine wO_nil ?_; refine kR_k (by simp only [keepE, dstE, geT, paramsE, cond_true, cond_false, Nat.beq]; exact rfl) ?_; refine kS_n ?_; refine wE_seq ?_; refine wE_region ?_; refine wO_val (a_mov (by exact rfl)) ?_; refine wO_val (a_mov (by exact rfl)) ?_
  refine wO_call (a_call (by exact rfl) (by exact rfl) (by exact rfl) (by exact rfl)) ?_
  refine FW.pu (index147 hp hf7 hr hs hn hg) ?_
  refine wO_val (a_num (by exact rfl) (by exact rfl) (by exact m_geq)) ?_; refine wO_val (a_mov (by exact rfl)) ?_; refine wO_nil ?_; refine kR_k (by simp only [keepE, dstE, geT, paramsE, cond_true, cond_false, Nat.beq]; exact rfl) ?_; refine kS_n ?_; refine wE_ret ?_
  refine endP_ret rfl rfl ?_
  show Value.bool (decide (0 ≤ idxK p l)) = _
  rw [idxK_any]
end Go.A.Pk
end
section
set_option maxRecDepth 100000
namespace Go.A.Pk
variable {T : Nat → Option AFunc}
def goodK (l : List Kd) (i : Nat) : Bool := match l[i]? with
  | some k => decide (Right k) && !(l.take i).any fun x => x.id == k.id
  | none => true
def good (kerf : Int) (l : List Kd) (i : Nat) : Bool := decide (0 ≤ kerf ∧ kerf ≤ 2) && (List.range i).all (goodK l)
theorem good_succ (kerf : Int) (l : List Kd) (i : Nat) : good kerf l (i + 1) = (good kerf l i && goodK l i) := by
  simp [good, List.range_succ, Bool.and_assoc]
def chk (kerf : Int) (l : List Kd) : Int := if 12 < l.length then 2 else if good kerf l l.length then 0 else 1
structure FnsA (T : Nat → Option AFunc) : Prop where
  p : primAS T
  f77 : T 77 = some f77
  f117 : T 117 = some f117
  f119 : T 119 = some f119
  f147 : T 147 = some f147
  f118 : T 118 = some f118
  f66 : T 66 = some f66
set_option maxHeartbeats 4000000 in
theorem check66 (F : FnsA T) {h : Heap} (hr : Rdy h) {a : Option Addr} {n c : Nat} {l : List Kd} (hs : SliceOf h 5 (.slice a n c) n (kcs l)) (kerf : Int) (hn : n < 1000000) : Pu T 66 [.agg #[.slice a n c, .int .i64 kerf]] h (.int .i64 (chk kerf l)) := by
  have hlen : l.length = n := by have := hs.len; rw [kcs_length] at this; omega
  refine .of F.p F.f66 hr rfl ?_
  by_cases h12 : 12 < n
  · refine wE_seq ?_; refine wE_region ?_; refine wO_val (a_box (by exact rfl) (by exact rfl)) ?_; refine wO_val (a_mov (by exact rfl)) ?_; refine wO_nil ?_; refine kR_k (by simp only [keepE, dstE, geT, paramsE, cond_true, cond_false, Nat.beq]; exact rfl) ?_; refine kS_n ?_; refine wE_seq ?_; refine wE_seq ?_; refine wE_region ?_; refine wO_val (a_faddr (by exact rfl)) ?_
    refine wO_val (a_load (by exact rfl) (by (simp (disch := first | omega | (simp only [z1, z2]; omega)) only [z3, z4, z5, z6, z7, z1, z2, *]; exact rfl)) (by exact rfl)) ?_; refine wO_val (a_len1 (by exact rfl)) ?_
    refine wO_val (a_num (by exact rfl) (by exact rfl) (by exact m_geqT (by omega))) ?_; refine wO_nil ?_; refine kR_k (by simp only [keepE, dstE, geT, paramsE, cond_true, cond_false, Nat.beq]; exact rfl) ?_; refine kS_n ?_; refine wE_true (by exact rfl) ?_; refine wE_seq ?_; refine wE_region ?_; refine wO_val (a_mov (by exact rfl)) ?_; refine wO_nil ?_
    refine kR_k (by simp only [keepE, dstE, geT, paramsE, cond_true, cond_false, Nat.beq]; exact rfl) ?_; refine kS_n ?_; refine wE_ret ?_; refine kS_r ?_
    refine endP_ret hr.log rfl ?_
    show Value.int .i64 2 = _
    rw [chk, if_pos (by omega)]
  · have hchk : chk kerf l = if good kerf l n then 0 else 1 := by rw [chk, if_neg (by omega), hlen]
    rw [hchk]
    refine wE_seq ?_; refine wE_region ?_; refine wO_val (a_box (by exact rfl) (by exact rfl)) ?_; refine wO_val (a_mov (by exact rfl)) ?_; refine wO_nil ?_; refine kR_k (by simp only [keepE, dstE, geT, paramsE, cond_true, cond_false, Nat.beq]; exact rfl) ?_; refine kS_n ?_; refine wE_seq ?_; refine wE_seq ?_; refine wE_region ?_; refine wO_val (a_faddr (by exact rfl)) ?_
    refine wO_val (a_load (by exact rfl) (by (simp (disch := first | omega | (simp only [z1, z2]; omega)) only [z3, z4, z5, z6, z7, z1, z2, *]; exact rfl)) (by exact rfl)) ?_; refine wO_val (a_len1 (by exact rfl)) ?_
    refine wO_val (a_num (by exact rfl) (by exact rfl) (by exact m_geqF (by omega))) ?_; refine wO_nil ?_; refine kR_k (by simp only [keepE, dstE, geT, paramsE, cond_true, cond_false, Nat.beq]; exact rfl) ?_; refine kS_n ?_; refine wE_false (by exact rfl) ?_; refine wE_skip ?_; refine kS_n ?_; refine wE_seq ?_; refine wE_region ?_; refine wO_val (a_faddr (by exact rfl)) ?_
    refine wO_val (a_load (by exact rfl) (by (simp (disch := first | omega | (simp only [z1, z2]; omega)) only [z3, z4, z5, z6, z7, z1, z2, *]; exact rfl)) (by exact rfl)) ?_
    refine wO_call (a_call (by exact rfl) (by exact rfl) (by exact rfl) (by exact rfl)) ?_
    have c77 : Pu T 77 [.int .i64 kerf, .int .i64 0, .int .i64 2] { h.push (.cells [.slice a n c, .int .i64 kerf] true 1) with log := [] } (.bool (good kerf l 0)) := by
      have hg0 : good kerf l 0 = decide (0 ≤ kerf ∧ kerf ≤ 2) := by simp [good]
      rw [hg0]
      by_cases hk : 0 ≤ kerf ∧ kerf ≤ 2
      · rw [decide_eq_true hk]; exact in77T F.p F.f77 (.of (hr.wf.push _)) hk
      · rw [decide_eq_false hk]; exact in77F F.p F.f77 (.of (hr.wf.push _)) hk
    refine FW.pu c77 ?_
    refine wO_val (a_mov (by exact rfl)) ?_; refine wO_nil ?_; refine kR_k (by simp only [keepE, dstE, geT, paramsE, cond_true, cond_false, Nat.beq]; exact rfl) ?_; refine kS_n ?_; refine wE_seq ?_; refine wE_seq ?_; refine wE_region ?_; refine wO_val (a_faddr (by exact rfl)) ?_
    refine wO_val (a_load (by exact rfl) (by (simp (disch := first | omega | (simp only [z1, z2]; omega)) only [z3, z4, z5, z6, z7, z1, z2, *]; exact rfl)) (by exact rfl)) ?_; refine wO_val (a_len1 (by exact rfl)) ?_; refine wO_val (a_mov (by exact rfl)) ?_; refine wO_nil ?_
    refine kR_k (by simp only [keepE, dstE, geT, paramsE, cond_true, cond_false, Nat.beq]; exact rfl) ?_; refine kS_n ?_; refine wE_block ?_
    refine wE_loop (fun k e ds h' => ∃ i : Nat, i ≤ n ∧ k = n - i ∧ e = [(1, .pointer (some ⟨h.next, 0, none⟩)), (3, .bool (good kerf l i)), (14, .slice a n c), (15, .int .i64 n), (16, .int .i64 i)] ∧ ds = [] ∧ Ext (h.push (.cells [.slice a n c, .int .i64 kerf] true 1)) h')
      ⟨0, Nat.zero_le _, rfl, rfl, rfl, .refl _⟩ ?_
    rintro k e ds hi ⟨i, hin, rfl, rfl, rfl, hx⟩
    have hnx : h.next + 1 ≤ hi.next := hx.next
    have hP : hi.get h.next = some (.cells [.slice a n c, .int .i64 kerf] true 1) := (hx.old _ (Nat.lt_succ_self _)).trans (z3 _ _)
    by_cases hlt : i < n
    · obtain ⟨x, hxl⟩ : ∃ x, l[i]? = some x := ⟨l[i], List.getElem?_eq_getElem (by omega)⟩
      have hg1 : good kerf l (i + 1) = (good kerf l i && (decide (Right x) && !(l.take i).any fun y => y.id == x.id)) := by rw [good_succ, goodK, hxl]
      have hs' := hs.ext (((Ext.refl h).push _).trans hx)
      rcases hs'.inv with ⟨_, _, h0, _⟩ | ⟨b, o, cap', hv, s, hcap⟩
      · omega
      · cases hv
        obtain ⟨vs, own, t, g1, g2⟩ := slice_elem s hxl
        have fin : ∀ {h' : Heap} {v : Bool}, v = good kerf l (i + 1) → Ext (h.push (.cells [.slice (some ⟨b, o, none⟩) n c, .int .i64 kerf] true 1)) h' → ∃ k', k' < n - i ∧ ∃ i' : Nat, i' ≤ n ∧ k' = n - i' ∧
            [(1, Value.pointer (some ⟨h.next, 0, none⟩)), (3, .bool v), (14, .slice (some ⟨b, o, none⟩) n c), (15, .int .i64 n), (16, .int .i64 (i + 1 : Nat))] = [(1, .pointer (some ⟨h.next, 0, none⟩)), (3, .bool (good kerf l i')), (14, .slice (some ⟨b, o, none⟩) n c), (15, .int .i64 n), (16, .int .i64 i')] ∧
            ([] : Dfs) = [] ∧ Ext (h.push (.cells [.slice (some ⟨b, o, none⟩) n c, .int .i64 kerf] true 1)) h' := fun hv hx' => ⟨n - (i + 1), by omega, i + 1, by omega, rfl, by rw [hv], rfl, hx'⟩
        cases hgd : good kerf l i with
        | false =>
          refine wE_seq ?_; refine wE_region ?_; refine wO_val (a_num (by exact rfl) (by exact rfl) (by exact m_geqT (by omega))) ?_; refine wO_nil ?_; refine kR_k (by simp only [keepE, dstE, geT, paramsE, cond_true, cond_false, Nat.beq]; exact rfl) ?_; refine kS_n ?_; refine wE_seq ?_; refine wE_true (by exact rfl) ?_; refine wE_skip ?_; refine kS_n ?_; refine wE_seq ?_; refine wE_block ?_; refine wE_seq ?_
          refine wE_region ?_; refine wO_val (a_mov (by exact rfl)) ?_
          refine wO_val (a_iaddrS (by exact rfl) (by exact rfl) hlt) ?_
          refine wO_val (a_loadN (by exact rfl) g1 g2 (by exact rfl)) ?_
          refine wO_val a_new ?_; refine wO_val (a_mov (by exact rfl)) ?_; refine wO_val (a_store (by exact rfl) (by exact rfl) (by (simp (disch := first | omega | (simp only [z1, z2]; omega)) only [z3, z4, z5, z6, z7, z1, z2, *]; exact rfl)) (by exact rfl) (by exact rfl)) ?_; refine wO_nil ?_
          refine kR_k (by simp only [keepE, dstE, geT, paramsE, cond_true, cond_false, Nat.beq]; exact rfl) ?_; refine kS_n ?_; refine wE_region ?_; refine wO_val (a_mov (by exact rfl)) ?_; refine wO_val (a_mov (by exact rfl)) ?_; refine wO_off (by exact rfl) (by exact rfl) ?_; refine wO_off (by exact rfl) (by exact rfl) ?_; refine wO_val (a_pickF (by exact rfl) (by exact rfl)) ?_
          refine wO_val (a_mov (by exact rfl)) ?_; refine wO_off (by exact rfl) (by exact rfl) ?_; refine wO_off (by exact rfl) (by exact rfl) ?_; refine wO_off (by exact rfl) (by exact rfl) ?_; refine wO_off (by exact rfl) (by exact rfl) ?_; refine wO_off (by exact rfl) (by exact rfl) ?_; refine wO_off (by exact rfl) (by exact rfl) ?_; refine wO_off (by exact rfl) (by exact rfl) ?_
          refine wO_off (by exact rfl) (by exact rfl) ?_; refine wO_val (a_pickF (by exact rfl) (by exact rfl)) ?_; refine wO_val (a_mov (by exact rfl)) ?_; refine wO_nil ?_; refine kR_k (by simp only [keepE, dstE, geT, paramsE, cond_true, cond_false, Nat.beq]; exact rfl) ?_; refine kB_n ?_; refine kS_n ?_; refine wE_region ?_; refine wO_val (a_num (by exact rfl) (by exact rfl) (by exact m_inc (by omega))) ?_
          refine wO_val (a_mov (by exact rfl)) ?_; refine wO_nil ?_; refine kR_k (by simp only [keepE, dstE, geT, paramsE, cond_true, cond_false, Nat.beq]; exact rfl) ?_; refine kS_n ?_
          exact fin (by rw [hg1, hgd]; rfl) ((hx.push _).wr hnx (by omega))
        | true =>
          refine wE_seq ?_; refine wE_region ?_; refine wO_val (a_num (by exact rfl) (by exact rfl) (by exact m_geqT (by omega))) ?_; refine wO_nil ?_; refine kR_k (by simp only [keepE, dstE, geT, paramsE, cond_true, cond_false, Nat.beq]; exact rfl) ?_; refine kS_n ?_; refine wE_seq ?_; refine wE_true (by exact rfl) ?_; refine wE_skip ?_; refine kS_n ?_; refine wE_seq ?_; refine wE_block ?_; refine wE_seq ?_
          refine wE_region ?_; refine wO_val (a_mov (by exact rfl)) ?_
          refine wO_val (a_iaddrS (by exact rfl) (by exact rfl) hlt) ?_
          refine wO_val (a_loadN (by exact rfl) g1 g2 (by exact rfl)) ?_
          refine wO_val a_new ?_; refine wO_val (a_mov (by exact rfl)) ?_; refine wO_val (a_store (by exact rfl) (by exact rfl) (by (simp (disch := first | omega | (simp only [z1, z2]; omega)) only [z3, z4, z5, z6, z7, z1, z2, *]; exact rfl)) (by exact rfl) (by exact rfl)) ?_; refine wO_nil ?_
          refine kR_k (by simp only [keepE, dstE, geT, paramsE, cond_true, cond_false, Nat.beq]; exact rfl) ?_; refine kS_n ?_; refine wE_region ?_; refine wO_val (a_mov (by exact rfl)) ?_; refine wO_val (a_mov (by exact rfl)) ?_; refine wO_on (by exact rfl) ?_
          refine wO_val (a_loadN (by exact rfl) (by (simp (disch := first | omega | (simp only [z1, z2]; omega)) only [z3, z4, z5, z6, z7, z1, z2, *]; exact rfl)) (by exact rfl) (by exact rfl)) ?_; refine wO_on (by exact rfl) ?_
          refine wO_call (a_call (by exact rfl) (by exact rfl) (by exact rfl) (by exact rfl)) ?_
          have hx3 := (hx.push (.cells [.int .i64 0, .int .i64 0, .int .i64 0, .int .i64 0, .bool false] true 1)).wr (base := h.next) (o := .cells (kc x) true 1) hnx (by omega)
          have hw3 := hx3.wf (hr.wf.push _)
          by_cases R : Right x
          · have c117 := right117 F.p F.f117 F.f77 (.of hw3) x
            rw [decide_eq_true R] at c117
            refine FW.pu c117 ?_
            refine wO_val (a_pickT (by exact rfl) (by exact rfl)) ?_; refine wO_val (a_mov (by exact rfl)) ?_; refine wO_on (by exact rfl) ?_; refine wO_val (a_faddr (by exact rfl)) ?_; refine wO_on (by exact rfl) ?_
            refine wO_val (a_load (by exact rfl) (by (simp (disch := first | omega | (simp only [z1, z2]; omega)) only [z3, z4, z5, z6, z7, z1, z2, *]; exact rfl)) (by exact rfl)) ?_; refine wO_on (by exact rfl) ?_; refine wO_val (a_mov (by exact rfl)) ?_; refine wO_on (by exact rfl) ?_
            refine wO_val (a_mov (by exact rfl)) ?_; refine wO_on (by exact rfl) ?_
            refine wO_val (a_slice3 (by exact rfl) (by exact rfl) (by exact rfl) hin hcap hn (.inr ⟨_, _, rfl⟩)) ?_
            refine wO_on (by exact rfl) ?_; refine wO_val (a_mkFunc (by exact rfl) (by exact rfl)) ?_; refine wO_on (by exact rfl) ?_
            refine wO_call (a_call (by exact rfl) (by exact rfl) (by exact rfl) (by exact rfl)) ?_
            have hsl : SliceOf { (hi.push (.cells [.int .i64 0, .int .i64 0, .int .i64 0, .int .i64 0, .bool false] true 1)).wr h.next hi.next (.cells (kc x) true 1) with log := [] } 5 (.slice (some ⟨b, o, none⟩) i i) i (kcs (l.take i)) := by
              rw [← kcs_take]
              exact ((hs.ext (((Ext.refl h).push _).trans hx3)).take hin).log _
            have c118 := contains118 F.p F.f118 F.f147 (.of hw3) hsl (by omega) (cap := #[.pointer (some ⟨hi.next, 0, none⟩)]) (g := 119) (p := fun y => y.id == x.id) (fun k hk => same119 F.p F.f119 (.of hw3) k x (own := true) (s := 1) (Heap.get_wr_new (base := h.next) (z3 _ _)) (Nat.lt_succ_self _))
            cases hany : (l.take i).any (fun y => y.id == x.id) with
            | true =>
              rw [hany] at c118
              refine FW.pu c118 ?_
              refine wO_on (by exact rfl) ?_; refine wO_val (a_not (by exact rfl)) ?_; refine wO_val (a_pickT (by exact rfl) (by exact rfl)) ?_; refine wO_val (a_mov (by exact rfl)) ?_; refine wO_nil ?_; refine kR_k (by simp only [keepE, dstE, geT, paramsE, cond_true, cond_false, Nat.beq]; exact rfl) ?_; refine kB_n ?_; refine kS_n ?_; refine wE_region ?_
              refine wO_val (a_num (by exact rfl) (by exact rfl) (by exact m_inc (by omega))) ?_; refine wO_val (a_mov (by exact rfl)) ?_; refine wO_nil ?_; refine kR_k (by simp only [keepE, dstE, geT, paramsE, cond_true, cond_false, Nat.beq]; exact rfl) ?_; refine kS_n ?_
              exact fin (by rw [hg1, hgd, hany, decide_eq_true R]; rfl) hx3
            | false =>
              rw [hany] at c118
              refine FW.pu c118 ?_
              refine wO_on (by exact rfl) ?_; refine wO_val (a_not (by exact rfl)) ?_; refine wO_val (a_pickT (by exact rfl) (by exact rfl)) ?_; refine wO_val (a_mov (by exact rfl)) ?_; refine wO_nil ?_; refine kR_k (by simp only [keepE, dstE, geT, paramsE, cond_true, cond_false, Nat.beq]; exact rfl) ?_; refine kB_n ?_; refine kS_n ?_; refine wE_region ?_
              refine wO_val (a_num (by exact rfl) (by exact rfl) (by exact m_inc (by omega))) ?_; refine wO_val (a_mov (by exact rfl)) ?_; refine wO_nil ?_; refine kR_k (by simp only [keepE, dstE, geT, paramsE, cond_true, cond_false, Nat.beq]; exact rfl) ?_; refine kS_n ?_
              exact fin (by rw [hg1, hgd, hany, decide_eq_true R]; rfl) hx3
          · have c117 := right117 F.p F.f117 F.f77 (.of hw3) x
            rw [decide_eq_false R] at c117
            refine FW.pu c117 ?_
            refine wO_val (a_pickT (by exact rfl) (by exact rfl)) ?_; refine wO_val (a_mov (by exact rfl)) ?_; refine wO_off (by exact rfl) (by exact rfl) ?_; refine wO_off (by exact rfl) (by exact rfl) ?_; refine wO_off (by exact rfl) (by exact rfl) ?_; refine wO_off (by exact rfl) (by exact rfl) ?_; refine wO_off (by exact rfl) (by exact rfl) ?_; refine wO_off (by exact rfl) (by exact rfl) ?_
            refine wO_off (by exact rfl) (by exact rfl) ?_; refine wO_off (by exact rfl) (by exact rfl) ?_; refine wO_val (a_pickF (by exact rfl) (by exact rfl)) ?_; refine wO_val (a_mov (by exact rfl)) ?_; refine wO_nil ?_; refine kR_k (by simp only [keepE, dstE, geT, paramsE, cond_true, cond_false, Nat.beq]; exact rfl) ?_; refine kB_n ?_; refine kS_n ?_; refine wE_region ?_
            refine wO_val (a_num (by exact rfl) (by exact rfl) (by exact m_inc (by omega))) ?_; refine wO_val (a_mov (by exact rfl)) ?_; refine wO_nil ?_; refine kR_k (by simp only [keepE, dstE, geT, paramsE, cond_true, cond_false, Nat.beq]; exact rfl) ?_; refine kS_n ?_
            exact fin (by rw [hg1, hgd, decide_eq_false R]; rfl) hx3
    · obtain rfl : i = n := by omega
      cases hgd : good kerf l i with
      | true =>
        refine wE_seq ?_; refine wE_region ?_; refine wO_val (a_num (by exact rfl) (by exact rfl) (by exact m_geqF (by omega))) ?_; refine wO_nil ?_; refine kR_k (by simp only [keepE, dstE, geT, paramsE, cond_true, cond_false, Nat.beq]; exact rfl) ?_; refine kS_n ?_; refine wE_seq ?_; refine wE_false (by exact rfl) ?_; refine wE_exit ?_; refine kS_e ?_; refine kS_e ?_; refine kB_e ?_; refine kS_n ?_
        refine wE_seq ?_; refine wE_seq ?_; refine wE_region ?_; refine wO_val (a_mov (by exact rfl)) ?_; refine wO_val (a_not (by exact rfl)) ?_; refine wO_nil ?_; refine kR_k (by simp only [keepE, dstE, geT, paramsE, cond_true, cond_false, Nat.beq]; exact rfl) ?_; refine kS_n ?_; refine wE_false (by exact rfl) ?_; refine wE_skip ?_; refine kS_n ?_; refine wE_seq ?_; refine wE_region ?_
        refine wO_val (a_mov (by exact rfl)) ?_; refine wO_nil ?_; refine kR_k (by simp only [keepE, dstE, geT, paramsE, cond_true, cond_false, Nat.beq]; exact rfl) ?_; refine kS_n ?_; refine wE_ret ?_
        refine endP_ret ?_ rfl rfl
        exact hx.log.trans hr.log
      | false =>
        refine wE_seq ?_; refine wE_region ?_; refine wO_val (a_num (by exact rfl) (by exact rfl) (by exact m_geqF (by omega))) ?_; refine wO_nil ?_; refine kR_k (by simp only [keepE, dstE, geT, paramsE, cond_true, cond_false, Nat.beq]; exact rfl) ?_; refine kS_n ?_; refine wE_seq ?_; refine wE_false (by exact rfl) ?_; refine wE_exit ?_; refine kS_e ?_; refine kS_e ?_; refine kB_e ?_; refine kS_n ?_
        refine wE_seq ?_; refine wE_seq ?_; refine wE_region ?_; refine wO_val (a_mov (by exact rfl)) ?_; refine wO_val (a_not (by exact rfl)) ?_; refine wO_nil ?_; refine kR_k (by simp only [keepE, dstE, geT, paramsE, cond_true, cond_false, Nat.beq]; exact rfl) ?_; refine kS_n ?_; refine wE_true (by exact rfl) ?_; refine wE_seq ?_; refine wE_region ?_; refine wO_val (a_mov (by exact rfl)) ?_
        refine wO_nil ?_; refine kR_k (by simp only [keepE, dstE, geT, paramsE, cond_true, cond_false, Nat.beq]; exact rfl) ?_; refine kS_n ?_; refine wE_ret ?_; refine kS_r ?_
        refine endP_ret ?_ rfl rfl
        exact hx.log.trans hr.log
end Go.A.Pk
end
section
set_option maxRecDepth 100000
namespace Go.A.Pk
variable {T : Nat → Option AFunc}
def bcs (l : List Bool) : List Value := l.map .bool
theorem slice_elem1 {h : Heap} {b o n : Nat} {l : List Value} (s : SliceAt h b o n 1 l) {i : Nat} {x : Value} (hi : l[i]? = some x) : ∃ vs own t, h.get b = some (.cells vs own t) ∧ lget vs (o + i * 1) = some x := by
  obtain ⟨vs, own, t, h1, h2⟩ := s.obj
  refine ⟨vs, own, t, h1, ?_⟩
  rw [ltake_eq, ldrop_eq] at h2
  have hl := s.len
  have hin : i < l.length := (List.getElem?_eq_some_iff.1 hi).1
  rw [← h2, List.getElem?_take_of_lt (by omega), List.getElem?_drop] at hi
  rw [lget_eq, Nat.mul_one]; exact hi
structure FnsC (T : Nat → Option AFunc) : Prop where
  p : primAS T
  f18 : T 18 = some f18
  f77 : T 77 = some f77
  f97 : T 97 = some f97
  f122 : T 122 = some f122
  f149 : T 149 = some f149
theorem index149 (F : FnsC T) {h : Heap} (hr : Rdy h) {v : Value} {n : Nat} {l : List Bool} (hs : SliceOf h 1 v n (bcs l)) (hn : n < 1000000) : ∃ z : Int, Pu T 149 [v, .bool false] h (.int .i64 z) ∧ decide (0 ≤ z) = !(l.all id) := by
  have hlen : l.length = n := by have := hs.len; simp [bcs] at this; omega
  obtain ⟨a, c, rfl⟩ := hs.form
  by_cases hall : l.all id = true
  · refine ⟨-1, ?_, by rw [hall]; rfl⟩
    refine .of F.p F.f149 hr rfl ?_
    refine wE_seq ?_; refine wE_region ?_; refine wO_val (a_mov (by exact rfl)) ?_; refine wO_nil ?_; refine kR_k (by simp only [keepE, dstE, geT, paramsE, cond_true, cond_false, Nat.beq]; exact rfl) ?_; refine kS_n ?_; refine wE_seq ?_; refine wE_seq ?_; refine wE_region ?_; refine wO_val (a_mov (by exact rfl)) ?_; refine wO_val (a_len1 (by exact rfl)) ?_; refine wO_val (a_mov (by exact rfl)) ?_
    refine wO_nil ?_; refine kR_k (by simp only [keepE, dstE, geT, paramsE, cond_true, cond_false, Nat.beq]; exact rfl) ?_; refine kS_n ?_; refine wE_block ?_
    refine wE_loop (fun k e ds h' => ∃ i : Nat, i ≤ n ∧ k = n - i ∧ e = [(0, .slice a n c), (1, .bool false), (7, .int .i64 n), (8, .int .i64 i)] ∧ ds = [] ∧ h' = h)
      ⟨0, Nat.zero_le _, rfl, rfl, rfl, rfl⟩ ?_
    rintro k e ds h' ⟨i, hi, rfl, rfl, rfl, rfl⟩
    by_cases hlt : i < n
    · have hxl : l[i]? = some true := by
        rw [List.getElem?_eq_getElem (by omega)]
        rw [List.all_eq_true] at hall
        exact congrArg some (hall _ (List.getElem_mem (by omega)))
      rcases hs.inv with ⟨_, _, h0, _⟩ | ⟨b, o, cap', hv, s, _⟩
      · omega
      · cases hv
        obtain ⟨vs, own, t, g1, g2⟩ := slice_elem1 s (x := .bool true) (i := i) (by simp [bcs, hxl])
        refine wE_seq ?_; refine wE_region ?_; refine wO_val (a_num (by exact rfl) (by exact rfl) (by exact m_geqT (by omega))) ?_; refine wO_nil ?_; refine kR_k (by simp only [keepE, dstE, geT, paramsE, cond_true, cond_false, Nat.beq]; exact rfl) ?_; refine kS_n ?_; refine wE_seq ?_; refine wE_true (by exact rfl) ?_; refine wE_skip ?_; refine kS_n ?_; refine wE_seq ?_; refine wE_block ?_; refine wE_seq ?_
        refine wE_region ?_; refine wO_val (a_mov (by exact rfl)) ?_; refine wO_val (a_mov (by exact rfl)) ?_; refine wO_nil ?_; refine kR_k (by simp only [keepE, dstE, geT, paramsE, cond_true, cond_false, Nat.beq]; exact rfl) ?_; refine kS_n ?_; refine wE_seq ?_; refine wE_region ?_; refine wO_val (a_mov (by exact rfl)) ?_; refine wO_val (a_mov (by exact rfl)) ?_; refine wO_val (a_mov (by exact rfl)) ?_
        refine wO_val (a_iaddrS (by exact rfl) (by exact rfl) hlt) ?_
        refine wO_val (a_load (by exact rfl) g1 g2) ?_
        refine wO_val (a_beq (by exact rfl) (by exact rfl)) ?_
        refine wO_nil ?_; refine kR_k (by simp only [keepE, dstE, geT, paramsE, cond_true, cond_false, Nat.beq]; exact rfl) ?_; refine kS_n ?_; refine wE_false (by exact rfl) ?_; refine wE_skip ?_; refine kB_n ?_; refine kS_n ?_; refine wE_region ?_; refine wO_val (a_num (by exact rfl) (by exact rfl) (by exact m_inc (by omega))) ?_; refine wO_val (a_mov (by exact rfl)) ?_; refine wO_nil ?_
        refine kR_k (by simp only [keepE, dstE, geT, paramsE, cond_true, cond_false, Nat.beq]; exact rfl) ?_; refine kS_n ?_
        exact ⟨n - (i + 1), by omega, i + 1, by omega, rfl, rfl, rfl, rfl⟩
    · obtain rfl : i = n := by omega
      refine wE_seq ?_; refine wE_region ?_; refine wO_val (a_num (by exact rfl) (by exact rfl) (by exact m_geqF (by omega))) ?_; refine wO_nil ?_; refine kR_k (by simp only [keepE, dstE, geT, paramsE, cond_true, cond_false, Nat.beq]; exact rfl) ?_; refine kS_n ?_; refine wE_seq ?_; refine wE_false (by exact rfl) ?_; refine wE_exit ?_; refine kS_e ?_; refine kS_e ?_; refine kB_e ?_; refine kS_n ?_
      refine wE_seq ?_; refine wE_region ?_; refine wO_val (a_mov (by exact rfl)) ?_; refine wO_nil ?_; refine kR_k (by simp only [keepE, dstE, geT, paramsE, cond_true, cond_false, Nat.beq]; exact rfl) ?_; refine kS_n ?_; refine wE_ret ?_
      exact endP_ret hr.log rfl rfl
  · obtain ⟨m, hm1, hm2⟩ : ∃ m : Nat, l[m]? = some false ∧ ∀ j, j < m → l[j]? = some true := by
      have hall' : l.all id = false := by simpa using hall
      clear hall hs hlen
      induction l with
      | nil => simp at hall'
      | cons b l ih =>
        cases b with
        | false => exact ⟨0, rfl, fun j hj => absurd hj (Nat.not_lt_zero j)⟩
        | true =>
          obtain ⟨m, h1, h2⟩ := ih (by simpa using hall')
          refine ⟨m + 1, by simpa using h1, fun j hj => ?_⟩
          cases j with
          | zero => rfl
          | succ j => simpa using h2 j (by omega)
    have hml : m < n := by have := (List.getElem?_eq_some_iff.1 hm1).1; omega
    refine ⟨m, ?_, by rw [show l.all id = false by simpa using hall]; simp⟩
    refine .of F.p F.f149 hr rfl ?_
    refine wE_seq ?_; refine wE_region ?_; refine wO_val (a_mov (by exact rfl)) ?_; refine wO_nil ?_; refine kR_k (by simp only [keepE, dstE, geT, paramsE, cond_true, cond_false, Nat.beq]; exact rfl) ?_; refine kS_n ?_; refine wE_seq ?_; refine wE_seq ?_; refine wE_region ?_; refine wO_val (a_mov (by exact rfl)) ?_; refine wO_val (a_len1 (by exact rfl)) ?_; refine wO_val (a_mov (by exact rfl)) ?_
    refine wO_nil ?_; refine kR_k (by simp only [keepE, dstE, geT, paramsE, cond_true, cond_false, Nat.beq]; exact rfl) ?_; refine kS_n ?_; refine wE_block ?_
    refine wE_loop (fun k e ds h' => ∃ i : Nat, i ≤ m ∧ k = n - i ∧ e = [(0, .slice a n c), (1, .bool false), (7, .int .i64 n), (8, .int .i64 i)] ∧ ds = [] ∧ h' = h)
      ⟨0, Nat.zero_le _, rfl, rfl, rfl, rfl⟩ ?_
    rintro k e ds h' ⟨i, hi, rfl, rfl, rfl, rfl⟩
    rcases hs.inv with ⟨_, _, h0, _⟩ | ⟨b, o, cap', hv, s, _⟩
    · omega
    · cases hv
      by_cases hlt : i < m
      · have hxl := hm2 i hlt
        obtain ⟨vs, own, t, g1, g2⟩ := slice_elem1 s (x := .bool true) (i := i) (by simp [bcs, hxl])
        refine wE_seq ?_; refine wE_region ?_; refine wO_val (a_num (by exact rfl) (by exact rfl) (by exact m_geqT (by omega))) ?_; refine wO_nil ?_; refine kR_k (by simp only [keepE, dstE, geT, paramsE, cond_true, cond_false, Nat.beq]; exact rfl) ?_; refine kS_n ?_; refine wE_seq ?_; refine wE_true (by exact rfl) ?_; refine wE_skip ?_; refine kS_n ?_; refine wE_seq ?_; refine wE_block ?_; refine wE_seq ?_
        refine wE_region ?_; refine wO_val (a_mov (by exact rfl)) ?_; refine wO_val (a_mov (by exact rfl)) ?_; refine wO_nil ?_; refine kR_k (by simp only [keepE, dstE, geT, paramsE, cond_true, cond_false, Nat.beq]; exact rfl) ?_; refine kS_n ?_; refine wE_seq ?_; refine wE_region ?_; refine wO_val (a_mov (by exact rfl)) ?_; refine wO_val (a_mov (by exact rfl)) ?_; refine wO_val (a_mov (by exact rfl)) ?_
        refine wO_val (a_iaddrS (by exact rfl) (by exact rfl) (by omega)) ?_
        refine wO_val (a_load (by exact rfl) g1 g2) ?_
        refine wO_val (a_beq (by exact rfl) (by exact rfl)) ?_
        refine wO_nil ?_; refine kR_k (by simp only [keepE, dstE, geT, paramsE, cond_true, cond_false, Nat.beq]; exact rfl) ?_; refine kS_n ?_; refine wE_false (by exact rfl) ?_; refine wE_skip ?_; refine kB_n ?_; refine kS_n ?_; refine wE_region ?_; refine wO_val (a_num (by exact rfl) (by exact rfl) (by exact m_inc (by omega))) ?_; refine wO_val (a_mov (by exact rfl)) ?_; refine wO_nil ?_
        refine kR_k (by simp only [keepE, dstE, geT, paramsE, cond_true, cond_false, Nat.beq]; exact rfl) ?_; refine kS_n ?_
        exact ⟨n - (i + 1), by omega, i + 1, by omega, rfl, rfl, rfl, rfl⟩
      · obtain rfl : i = m := by omega
        obtain ⟨vs, own, t, g1, g2⟩ := slice_elem1 s (x := .bool false) (i := i) (by simp [bcs, hm1])
        refine wE_seq ?_; refine wE_region ?_; refine wO_val (a_num (by exact rfl) (by exact rfl) (by exact m_geqT (by omega))) ?_; refine wO_nil ?_; refine kR_k (by simp only [keepE, dstE, geT, paramsE, cond_true, cond_false, Nat.beq]; exact rfl) ?_; refine kS_n ?_; refine wE_seq ?_; refine wE_true (by exact rfl) ?_; refine wE_skip ?_; refine kS_n ?_; refine wE_seq ?_; refine wE_block ?_; refine wE_seq ?_
        refine wE_region ?_; refine wO_val (a_mov (by exact rfl)) ?_; refine wO_val (a_mov (by exact rfl)) ?_; refine wO_nil ?_; refine kR_k (by simp only [keepE, dstE, geT, paramsE, cond_true, cond_false, Nat.beq]; exact rfl) ?_; refine kS_n ?_; refine wE_seq ?_; refine wE_region ?_; refine wO_val (a_mov (by exact rfl)) ?_; refine wO_val (a_mov (by exact rfl)) ?_; refine wO_val (a_mov (by exact rfl)) ?_
        refine wO_val (a_iaddrS (by exact rfl) (by exact rfl) (by omega)) ?_
        refine wO_val (a_load (by exact rfl) g1 g2) ?_
        refine wO_val (a_beq (by exact rfl) (by exact rfl)) ?_
        refine wO_nil ?_; refine kR_k (by simp only [keepE, dstE, geT, paramsE, cond_true, cond_false, Nat.beq]; exact rfl) ?_; refine kS_n ?_; refine wE_true (by exact rfl) ?_; refine wE_seq ?_; refine wE_region ?_; refine wO_val (a_mov (by exact rfl)) ?_; refine wO_val (a_mov (by exact rfl)) ?_; refine wO_nil ?_
        refine kR_k (by simp only [keepE, dstE, geT, paramsE, cond_true, cond_false, Nat.beq]; exact rfl) ?_; refine kS_n ?_; refine wE_ret ?_; refine kB_r ?_; refine kS_r ?_; refine kS_r ?_; refine kB_r ?_; refine kS_r ?_
        exact endP_ret hr.log rfl rfl
theorem contains122 (F : FnsC T) {h : Heap} (hr : Rdy h) {v : Value} {n : Nat} {l : List Bool} (hs : SliceOf h 1 v n (bcs l)) (hn : n < 1000000) : Pu T 122 [v, .bool false] h (.bool !(l.all id)) := by
  obtain ⟨ob, nx, lg⟩ := h
  obtain rfl : lg = [] := hr.log
  obtain ⟨z, hz, hz2⟩ := index149 F hr hs hn
  refine .of F.p F.f122 hr rfl ?_
  refine wE_seq ?_; refine wE_region ?_; refine wO_val (a_mov (by exact rfl)) ?_; refine wO_nil ?_; refine kR_k (by simp only [keepE, dstE, geT, paramsE, cond_true, cond_false, Nat.beq]; exact rfl) ?_; refine kS_n ?_; refine wE_seq ?_; refine wE_region ?_; refine wO_val (a_mov (by exact rfl)) ?_; refine wO_val (a_mov (by exact rfl)) ?_
  refine wO_call (a_call (by exact rfl) (by exact rfl) (by exact rfl) (by exact rfl)) ?_
  refine FW.pu hz ?_
  cases hl : l.all id with
  | true =>
    rw [hl] at hz2
    have : z < 0 := by simpa using hz2
    refine wO_val (a_num (by exact rfl) (by exact rfl) (by exact m_geqF (by omega))) ?_; refine wO_val (a_mov (by exact rfl)) ?_; refine wO_nil ?_; refine kR_k (by simp only [keepE, dstE, geT, paramsE, cond_true, cond_false, Nat.beq]; exact rfl) ?_; refine kS_n ?_; refine wE_ret ?_
    exact endP_ret rfl rfl rfl
  | false =>
    rw [hl] at hz2
    have : 0 ≤ z := by simpa using hz2
    refine wO_val (a_num (by exact rfl) (by exact rfl) (by exact m_geqT (by omega))) ?_; refine wO_val (a_mov (by exact rfl)) ?_; refine wO_nil ?_; refine kR_k (by simp only [keepE, dstE, geT, paramsE, cond_true, cond_false, Nat.beq]; exact rfl) ?_; refine kS_n ?_; refine wE_ret ?_
    exact endP_ret rfl rfl rfl
theorem few18 (F : FnsC T) {h : Heap} (hr : Rdy h) {a : Option Addr} {n c : Nat} (kerf : Int) : Pu T 18 [.agg #[.slice a n c, .int .i64 kerf]] h (.bool (decide (n ≤ 16))) := by
  by_cases hk : n ≤ 16
  · rw [decide_eq_true hk]
    refine .of F.p F.f18 hr rfl ?_
    refine wE_seq ?_; refine wE_region ?_; refine wO_val (a_box (by exact rfl) (by exact rfl)) ?_; refine wO_val (a_mov (by exact rfl)) ?_; refine wO_nil ?_; refine kR_k (by simp only [keepE, dstE, geT, paramsE, cond_true, cond_false, Nat.beq]; exact rfl) ?_; refine kS_n ?_; refine wE_seq ?_; refine wE_region ?_; refine wO_val (a_faddr (by exact rfl)) ?_
    refine wO_val (a_load (by exact rfl) (by (simp (disch := first | omega | (simp only [z1, z2]; omega)) only [z3, z4, z5, z6, z7, z1, z2, *]; exact rfl)) (by exact rfl)) ?_; refine wO_val (a_len1 (by exact rfl)) ?_
    refine wO_val (a_num (by exact rfl) (by exact rfl) (by exact m_geqT (by omega))) ?_; refine wO_val (a_mov (by exact rfl)) ?_; refine wO_nil ?_; refine kR_k (by simp only [keepE, dstE, geT, paramsE, cond_true, cond_false, Nat.beq]; exact rfl) ?_; refine kS_n ?_; refine wE_ret ?_
    exact endP_ret hr.log rfl rfl
  · rw [decide_eq_false hk]
    refine .of F.p F.f18 hr rfl ?_
    refine wE_seq ?_; refine wE_region ?_; refine wO_val (a_box (by exact rfl) (by exact rfl)) ?_; refine wO_val (a_mov (by exact rfl)) ?_; refine wO_nil ?_; refine kR_k (by simp only [keepE, dstE, geT, paramsE, cond_true, cond_false, Nat.beq]; exact rfl) ?_; refine kS_n ?_; refine wE_seq ?_; refine wE_region ?_; refine wO_val (a_faddr (by exact rfl)) ?_
    refine wO_val (a_load (by exact rfl) (by (simp (disch := first | omega | (simp only [z1, z2]; omega)) only [z3, z4, z5, z6, z7, z1, z2, *]; exact rfl)) (by exact rfl)) ?_; refine wO_val (a_len1 (by exact rfl)) ?_
    refine wO_val (a_num (by exact rfl) (by exact rfl) (by exact m_geqF (by omega))) ?_; refine wO_val (a_mov (by exact rfl)) ?_; refine wO_nil ?_; refine kR_k (by simp only [keepE, dstE, geT, paramsE, cond_true, cond_false, Nat.beq]; exact rfl) ?_; refine kS_n ?_; refine wE_ret ?_
    exact endP_ret hr.log rfl rfl
def asked (kerf : Int) (l : List Kd) (b : Prop) [Decidable b] : Int := if chk kerf l = 0 then (if b then 0 else 1) else chk kerf l
end Go.A.Pk
end
section
set_option maxRecDepth 100000
namespace Go.A.Pk
variable {T : Nat → Option AFunc}
inductive OwnK (lo : Nat) (h : Heap) : Value → List Kd → Prop
  | nil : OwnK lo h (.slice none 0 0) []
  | empty {b} : lo ≤ b → b < h.next → h.get b = some (.cells [] true 5) → OwnK lo h (.slice (some ⟨b, 0, none⟩) 0 0) []
  | full {b n l} : lo ≤ b → b < h.next → h.get b = some (.cells (kcs l) true 5) → n = l.length → n ≠ 0 → OwnK lo h (.slice (some ⟨b, 0, none⟩) n UNK) l
theorem OwnK.slice {lo : Nat} {h : Heap} {v : Value} {l : List Kd} (s : OwnK lo h v l) (hn : l.length < 1000000) : SliceOf h 5 v l.length (kcs l) := by
  cases s with
  | nil => exact .nil
  | empty h1 h2 h3 => exact .mem ⟨h2, ⟨_, _, _, h3, rfl⟩, rfl⟩ (Nat.le_refl _)
  | full h1 h2 h3 h4 h5 =>
    subst h4
    refine .mem ⟨h2, ⟨_, _, _, h3, ?_⟩, kcs_length l⟩ (by unfold UNK; omega)
    rw [ltake_eq, ldrop_eq, List.drop_zero, List.take_of_length_le (by rw [kcs_length]; exact Nat.le_refl _)]
theorem OwnK.log {lo : Nat} {h : Heap} {v : Value} {l : List Kd} (s : OwnK lo h v l) (m : List Nat) : OwnK lo { h with log := m } v l := by
  cases s with
  | nil => exact .nil
  | empty h1 h2 h3 => exact .empty h1 h2 h3
  | full h1 h2 h3 h4 h5 => exact .full h1 h2 h3 h4 h5
theorem OwnK.ext {lo : Nat} {h h' : Heap} {v : Value} {l : List Kd} (s : OwnK lo h v l) (x : Ext h h') : OwnK lo h' v l := by
  have hx := x.next
  cases s with
  | nil => exact .nil
  | empty h1 h2 h3 => exact .empty h1 (by omega) ((x.old _ h2).trans h3)
  | full h1 h2 h3 h4 h5 => exact .full h1 (by omega) ((x.old _ h2).trans h3) h4 h5
def SawQ (er kerf : Int) (l : List Kd) (v : Value) (h : Heap) : Prop := ∃ s, v = .tuple #[.agg #[s, .int .i64 kerf], .int .i64 er] ∧ SliceOf h 5 s l.length (kcs l)
theorem SawQ.log {er kerf : Int} {l : List Kd} (v : Value) (h' : Heap) (m : List Nat) (q : SawQ er kerf l v h') : SawQ er kerf l v { h' with log := m } := by
  obtain ⟨s, h1, h2⟩ := q
  exact ⟨s, h1, h2.log m⟩
theorem SawQ.gc {er kerf : Int} {l : List Kd} {h : Heap} (v : Value) (h1 : Heap) (hv : noRef v = true) (q : SawQ er kerf l v h1) : SawQ er kerf l v h := by
  obtain ⟨s, rfl, h2⟩ := q
  refine ⟨s, rfl, ?_⟩
  generalize l.length = n at *
  generalize kcs l = cs at *
  cases h2 with
  | nil => exact .nil
  | mem s _ => simp [noRef, flatL, flat, scalL, scal, scal1] at hv
structure FnsE (T : Nat → Option AFunc) : Prop extends FnsA T, FnsC T where
  f75 : T 75 = some f75
  f96 : T 96 = some f96
  f113 : T 113 = some f113
theorem OwnK.gc {lo : Nat} {l : List Kd} {h : Heap} (v : Value) (h1 : Heap) (hv : noRef v = true) (q : OwnK lo h1 v l) : OwnK lo h v l := by
  cases q with
  | nil => exact .nil
  | empty => simp [noRef, flat, scal, scal1] at hv
  | full => simp [noRef, flat, scal, scal1] at hv
theorem clone96 (F : FnsE T) {h : Heap} (hr : Rdy h) {a : Option Addr} {n c : Nat} {l : List Kd} (hs : SliceOf h 5 (.slice a n c) n (kcs l)) (hn : n < 1000000) : Al T 96 [.slice a n c] h fun v h' => OwnK h.next h' v l := by
  have hlen : l.length = n := by have := hs.len; rw [kcs_length] at this; omega
  refine .of F.toFnsA.p F.f96 hr OwnK.gc ?_
  rcases hs.inv with ⟨_, hv, h0, hl⟩ | ⟨b, o, cap, hv, s, hc⟩
  · cases hv
    obtain rfl : l = [] := by cases l with | nil => rfl | cons k l => simp [kcs, kc] at hl
    refine wE_seq ?_; refine wE_region ?_; refine wO_val (a_mov (by exact rfl)) ?_; refine wO_nil ?_; refine kR_k (by simp only [keepE, dstE, geT, paramsE, cond_true, cond_false, Nat.beq]; exact rfl) ?_; refine kS_n ?_; refine wE_seq ?_; refine wE_seq ?_; refine wE_region ?_; refine wO_val (a_mov (by exact rfl)) ?_
    refine wO_val (a_nil (by exact rfl) (by exact rfl) rfl) ?_
    refine wO_nil ?_; refine kR_k (by simp only [keepE, dstE, geT, paramsE, cond_true, cond_false, Nat.beq]; exact rfl) ?_; refine kS_n ?_; refine wE_true (by exact rfl) ?_; refine wE_seq ?_; refine wE_region ?_; refine wO_val (a_mov (by exact rfl)) ?_; refine wO_nil ?_; refine kR_k (by simp only [keepE, dstE, geT, paramsE, cond_true, cond_false, Nat.beq]; exact rfl) ?_; refine kS_n ?_; refine wE_ret ?_
    refine kS_r ?_
    exact endA_ret hr.log rfl .nil
  · cases hv
    refine wE_seq ?_; refine wE_region ?_; refine wO_val (a_mov (by exact rfl)) ?_; refine wO_nil ?_; refine kR_k (by simp only [keepE, dstE, geT, paramsE, cond_true, cond_false, Nat.beq]; exact rfl) ?_; refine kS_n ?_; refine wE_seq ?_; refine wE_seq ?_; refine wE_region ?_; refine wO_val (a_mov (by exact rfl)) ?_
    refine wO_val (a_nil (by exact rfl) (by exact rfl) rfl) ?_
    refine wO_nil ?_; refine kR_k (by simp only [keepE, dstE, geT, paramsE, cond_true, cond_false, Nat.beq]; exact rfl) ?_; refine kS_n ?_; refine wE_false (by exact rfl) ?_; refine wE_skip ?_; refine kS_n ?_; refine wE_seq ?_; refine wE_region ?_; refine wO_val (a_bslice (by exact rfl) (by exact rfl)) ?_; refine wO_val (a_mov (by exact rfl)) ?_
    by_cases h0 : n = 0
    · subst h0
      obtain rfl : l = [] := List.length_eq_zero_iff.1 hlen
      refine wO_val (a_app_zero (by exact rfl) (by exact rfl) (src_of (hs.ext ((Ext.refl h).push _))) (Nat.le_refl _)) ?_
      refine wO_val (a_mov (by exact rfl)) ?_; refine wO_nil ?_; refine kR_k (by simp only [keepE, dstE, geT, paramsE, cond_true, cond_false, Nat.beq]; exact rfl) ?_; refine kS_n ?_; refine wE_ret ?_
      exact endA_ret hr.log rfl (.empty (Nat.le_refl _) (Nat.lt_succ_self _) (z3 _ _))
    · refine wO_val (a_app_full (ws := kcs l) (by exact rfl) (by exact rfl) (src_of (hs.ext ((Ext.refl h).push _))) h0 (by omega) (by unfold UNK; omega) (z3 _ _) (Nat.le_refl _) (by omega) rfl) ?_
      refine wO_val (a_mov (by exact rfl)) ?_; refine wO_nil ?_; refine kR_k (by simp only [keepE, dstE, geT, paramsE, cond_true, cond_false, Nat.beq]; exact rfl) ?_; refine kS_n ?_; refine wE_ret ?_
      refine endA_ret hr.log rfl ?_
      have : OwnK h.next ((h.push (.cells [] true 5)).push (.cells (kcs l) true 5)) (.slice (some ⟨h.next + 1, 0, none⟩) n UNK) l := .full (Nat.le_succ _) (Nat.lt_succ_self _) (z3 _ _) hlen.symm h0
      have e0 : 0 + n = n := Nat.zero_add n
      rw [e0]
      exact this
end Go.A.Pk
end
section
set_option maxRecDepth 100000
namespace Go.A.Pk
variable {T : Nat → Option AFunc}
theorem SawQ.ret {er kerf : Int} {l : List Kd} {h : Heap} {s : Value} (h2 : SliceOf h 5 s l.length (kcs l)) : SawQ er kerf l (oneV [.agg (List.toArray [s, .int .i64 kerf]), .int .i64 er]) h := ⟨s, rfl, h2⟩
end Go.A.Pk
end
section
set_option maxRecDepth 100000
namespace Go.A.Pk
variable {T : Nat → Option AFunc}
inductive Wsl (lo : Nat) (h : Heap) : Value → Nat → Prop
  | nil : Wsl lo h (.slice none 0 0) 0
  | full {q i vs} : lo ≤ q → q < h.next → h.get q = some (.cells vs true 1) → vs.length = i → i ≠ 0 → Wsl lo h (.slice (some ⟨q, 0, none⟩) i UNK) i
def startE (kerf : Int) (l : List Kd) (bl : List Bool) : Int := if chk kerf l = 0 then (if bl.all id then 0 else 1) else chk kerf l
set_option maxHeartbeats 4000000 in
theorem started75 (G : FnsE T) {h : Heap} (hr : Rdy h) {a : Option Addr} {n c : Nat} {l : List Kd} (hs : SliceOf h 5 (.slice a n c) n (kcs l)) (kerf : Int) (hn : n < 1000000) {v : Value} {m : Nat} {bl : List Bool} (hb : SliceOf h 1 v m (bcs bl)) (hm : m < 1000000) :
    Al T 75 [.agg #[.slice a n c, .int .i64 kerf], v] h fun v _ => ∃ p, v = .tuple #[.pointer p, .int .i64 (startE kerf l bl)] := by
  refine .of G.toFnsA.p G.f75 hr (fun _ _ _ q => q) ?_
  have hx : Ext h (h.push (.cells [.slice a n c, .int .i64 kerf] true 1)) := (Ext.refl h).push _
  have hlen : l.length = n := by have := hs.len; rw [kcs_length] at this; omega
  refine wE_seq ?_; refine wE_region ?_; refine wO_val (a_box (by exact rfl) (by exact rfl)) ?_; refine wO_val (a_mov (by exact rfl)) ?_; refine wO_val (a_mov (by exact rfl)) ?_; refine wO_nil ?_; refine kR_k (by simp only [keepE, dstE, geT, paramsE, cond_true, cond_false, Nat.beq]; exact rfl) ?_; refine kS_n ?_; refine wE_seq ?_; refine wE_seq ?_; refine wE_region ?_
  refine wO_val (a_loadN (by exact rfl) (by (simp (disch := first | omega | (simp only [z1, z2]; omega)) only [z3, z4, z5, z6, z7, z1, z2, *]; exact rfl)) (by exact rfl) (by exact rfl)) ?_
  refine wO_call (a_call (by exact rfl) (by exact rfl) (by exact rfl) (by exact rfl)) ?_
  refine FW.pu (check66 G.toFnsA (.of (hx.wf hr.wf)) ((hs.ext hx).log []) kerf hn) ?_
  unfold startE
  by_cases hc : chk kerf l = 0
  · rw [if_pos hc, hc]
    refine wO_val (a_mov (by exact rfl)) ?_; refine wO_nil ?_; refine kR_k (by simp only [keepE, dstE, geT, paramsE, cond_true, cond_false, Nat.beq]; exact rfl) ?_; refine kS_n ?_; refine wE_seq ?_; refine wE_region ?_; refine wO_val (a_mov (by exact rfl)) ?_; refine wO_val (a_num (by exact rfl) (by exact rfl) (by exact m_neqF (by omega))) ?_; refine wO_nil ?_
    refine kR_k (by simp only [keepE, dstE, geT, paramsE, cond_true, cond_false, Nat.beq]; exact rfl) ?_; refine kS_n ?_; refine wE_false (by exact rfl) ?_; refine wE_skip ?_; refine kS_n ?_; refine wE_seq ?_; refine wE_seq ?_; refine wE_region ?_; refine wO_val (a_mov (by exact rfl)) ?_
    refine wO_call (a_call (by exact rfl) (by exact rfl) (by exact rfl) (by exact rfl)) ?_
    refine FW.pu (contains122 G.toFnsC (.of (hx.wf hr.wf)) ((hb.ext hx).log []) hm) ?_
    cases hbl : bl.all id with
    | false =>
      refine wO_nil ?_; refine kR_k (by simp only [keepE, dstE, geT, paramsE, cond_true, cond_false, Nat.beq]; exact rfl) ?_; refine kS_n ?_; refine wE_true (by exact rfl) ?_; refine wE_seq ?_; refine wE_region ?_; refine wO_val (a_mov (by exact rfl)) ?_; refine wO_val (a_mov (by exact rfl)) ?_; refine wO_nil ?_
      refine kR_k (by simp only [keepE, dstE, geT, paramsE, cond_true, cond_false, Nat.beq]; exact rfl) ?_; refine kS_n ?_; refine wE_ret ?_; refine kS_r ?_
      exact endA_ret (vs := [.pointer none, .int .i64 1]) hr.log rfl ⟨_, rfl⟩
    | true =>
      refine wO_nil ?_; refine kR_k (by simp only [keepE, dstE, geT, paramsE, cond_true, cond_false, Nat.beq]; exact rfl) ?_; refine kS_n ?_; refine wE_false (by exact rfl) ?_; refine wE_skip ?_; refine kS_n ?_; refine wE_seq ?_; refine wE_region ?_
      refine wO_val (a_loadN (by exact rfl) (by (simp (disch := first | omega | (simp only [z1, z2]; omega)) only [z3, z4, z5, z6, z7, z1, z2, *]; exact rfl)) (by exact rfl) (by exact rfl)) ?_; refine wO_val (a_build (by exact rfl)) ?_; refine wO_val (a_box (by exact rfl) (by exact rfl)) ?_
      refine wO_val (a_mov (by exact rfl)) ?_; refine wO_nil ?_; refine kR_k (by simp only [keepE, dstE, geT, paramsE, cond_true, cond_false, Nat.beq]; exact rfl) ?_; refine kS_n ?_; refine wE_seq ?_; refine wE_seq ?_; refine wE_region ?_; refine wO_val (a_faddr (by exact rfl)) ?_
      refine wO_val (a_load (by exact rfl) (by (simp (disch := first | omega | (simp only [z1, z2]; omega)) only [z3, z4, z5, z6, z7, z1, z2, *]; exact rfl)) (by exact rfl)) ?_; refine wO_val (a_len1 (by exact rfl)) ?_; refine wO_val (a_mov (by exact rfl)) ?_; refine wO_nil ?_
      refine kR_k (by simp only [keepE, dstE, geT, paramsE, cond_true, cond_false, Nat.beq]; exact rfl) ?_; refine kS_n ?_; refine wE_block ?_
      refine wE_loop (fun k e ds h' => ∃ (i : Nat) (w : Value), i ≤ n ∧ k = n - i ∧ e = [(7, .pointer (some ⟨h.next + 1, 0, none⟩)), (21, .slice a n c), (22, .int .i64 n), (23, .int .i64 i)] ∧ ds = [] ∧ Ext (h.push (.cells [.slice a n c, .int .i64 kerf] true 1)) h' ∧
          h.next + 1 < h'.next ∧ h'.get (h.next + 1) = some (.cells [.slice a n c, .int .i64 kerf, w] true 1) ∧ Wsl (h.next + 2) h' w i)
        ⟨0, .slice none 0 0, Nat.zero_le _, rfl, rfl, rfl, (Ext.refl _).push _, Nat.lt_succ_self _, by (simp (disch := first | omega | (simp only [z1, z2]; omega) | (simp only [z1, z2]; done) | fail) only [z8, z4, z5, z9, z7, z1, z2, *]; exact rfl), .nil⟩ ?_
      rintro k e ds hi ⟨i, w, hin, rfl, rfl, rfl, hx1, hnx, hW, hw⟩
      by_cases hlt : i < n
      · obtain ⟨x, hxl⟩ : ∃ x, l[i]? = some x := ⟨l[i], List.getElem?_eq_getElem (by omega)⟩
        have hs' := hs.ext (((Ext.refl h).push _).trans hx1)
        rcases hs'.inv with ⟨_, _, h0, _⟩ | ⟨b, o, cap', hv, s, hcap⟩
        · omega
        · cases hv
          obtain ⟨vs, own, t, g1, g2⟩ := slice_elem s hxl
          have hx3 := (hx1.push (.cells [.int .i64 0, .int .i64 0, .int .i64 0, .int .i64 0, .bool false] true 1)).wr (base := h.next) (x := hi.next) (o := .cells (kc x) true 1) hx1.next (by omega)
          have hx4 := hx3.push (.cells [.int .i64 x.worth] true 1)
          cases hw with
          | nil =>
            refine wE_seq ?_; refine wE_region ?_; refine wO_val (a_num (by exact rfl) (by exact rfl) (by exact m_geqT (by omega))) ?_; refine wO_nil ?_; refine kR_k (by simp only [keepE, dstE, geT, paramsE, cond_true, cond_false, Nat.beq]; exact rfl) ?_; refine kS_n ?_; refine wE_seq ?_; refine wE_true (by exact rfl) ?_; refine wE_skip ?_; refine kS_n ?_; refine wE_seq ?_; refine wE_block ?_; refine wE_seq ?_
            refine wE_region ?_
            refine wO_val (a_iaddrS (by exact rfl) (by exact rfl) hlt) ?_
            refine wO_val (a_loadN (by exact rfl) g1 g2 (by exact rfl)) ?_
            refine wO_val a_new ?_; refine wO_val (a_store (by exact rfl) (by exact rfl) (by (simp (disch := first | omega | (simp only [z1, z2]; omega)) only [z3, z4, z5, z6, z7, z1, z2, *]; exact rfl)) (by exact rfl) (by exact rfl)) ?_; refine wO_nil ?_
            refine kR_k (by simp only [keepE, dstE, geT, paramsE, cond_true, cond_false, Nat.beq]; exact rfl) ?_; refine kS_n ?_; refine wE_draw ?_; refine wD_quiet rfl rfl rfl (by exact rfl) (by exact rfl) (by exact rfl) (a_mov (by exact rfl)) ?_; refine wD_quiet rfl rfl rfl (by exact rfl) (by exact rfl) (by exact rfl) (a_mov (by exact rfl)) ?_
            refine wD_quiet rfl rfl rfl (by exact rfl) (by exact rfl) (by exact rfl) (a_nilchk (by exact rfl)) ?_; refine wD_quiet rfl rfl rfl (by exact rfl) (by exact rfl) (by exact rfl) (a_faddr (by exact rfl)) ?_
            refine wD_quiet rfl rfl rfl (by exact rfl) (by exact rfl) (by exact rfl) (a_load (by exact rfl) (by (simp (disch := first | omega | (simp only [z1, z2]; omega)) only [z3, z4, z5, z6, z7, z1, z2, *]; exact rfl)) (by exact rfl)) ?_
            refine wD_quiet rfl rfl rfl (by exact rfl) (by exact rfl) (by exact rfl) (a_faddr (by exact rfl)) ?_
            refine wD_quiet rfl rfl rfl (by exact rfl) (by exact rfl) (by exact rfl) (a_load (by exact rfl) (by (simp (disch := first | omega | (simp only [z1, z2]; omega)) only [z3, z4, z5, z6, z7, z1, z2, *]; exact rfl)) (by exact rfl)) ?_
            refine wD_new rfl rfl rfl (by exact rfl) (by exact rfl) (by exact rfl) (a_bslice (by exact rfl) (by exact rfl)) (by refine rs_cons (rq_quiet rfl (a_load (by exact rfl) (by (simp (disch := first | omega | (simp only [z1, z2]; omega)) only [z3, z4, z5, z6, z7, z1, z2, *]; exact rfl)) (by exact rfl)) (by exact sv_int _ _)) ?_; refine rs_cons (rq_quiet rfl (a_faddr (by exact rfl)) (by exact sv_ptr _)) ?_; refine rs_cons (rq_quiet rfl (a_load (by exact rfl) (by (simp (disch := first | omega | (simp only [z1, z2]; omega)) only [z3, z4, z5, z6, z7, z1, z2, *]; exact rfl)) (by exact rfl)) (by exact sv_slice _ _ _)) ?_; refine rs_cons (rq_quiet rfl (a_faddr (by exact rfl)) (by exact sv_ptr _)) ?_; refine rs_cons (rq_quiet rfl (a_nilchk (by exact rfl)) (by exact sv_ptr _)) ?_; refine rs_cons (rq_quiet rfl (a_mov (by exact rfl)) (by exact sv_ptr _)) ?_; refine rs_cons (rq_quiet rfl (a_mov (by exact rfl)) (by exact sv_ptr _)) ?_; exact rs_nil) ?_
            refine wD_app_nil (n := 1) rfl rfl rfl (by exact rfl) (by exact rfl) (by exact rfl) (src_log (src_slice (cs := [.int .i64 x.worth]) (by (simp (disch := first | omega | (simp only [z1, z2]; omega) | (simp only [z1, z2]; done) | fail) only [z8, z4, z5, z9, z7, z1, z2, *]; exact rfl)) rfl rfl)) (by omega) (by omega) (by apply ra_dropC rfl; apply ra_dropC rfl; apply ra_dropC rfl; apply ra_dropC rfl; apply ra_dropC rfl; apply ra_dropC rfl; apply ra_dropC rfl; apply ra_keepC rfl (rq_quiet rfl (a_mov (by exact rfl)) (by exact sv_ptr _)) rfl; exact ra_nil) ?_
            refine wD_quiet rfl rfl rfl (by exact rfl) (by exact rfl) (by exact rfl) (a_nilchk (by exact rfl)) ?_; refine wD_quiet rfl rfl rfl (by exact rfl) (by exact rfl) (by exact rfl) (a_faddr (by exact rfl)) ?_
            refine wD_store rfl rfl rfl (by exact rfl) (by exact rfl) (by exact rfl) (by (simp (disch := first | omega | (simp only [z1, z2]; omega)) only [z3, z4, z5, z6, z7, z1, z2, *]; exact rfl)) (by exact rfl) (by exact rfl) (by (simp only [z1, z2]; omega)) (by omega) (by apply ra_dropC rfl; apply ra_dropC rfl; apply ra_dropC rfl; exact ra_nil) ?_
            refine wD_nil ?_; refine kR_k (by simp only [keepE, dstE, geT, paramsE, cond_true, cond_false, Nat.beq]; exact rfl) ?_; refine kB_n ?_; refine kS_n ?_; refine wE_region ?_; refine wO_val (a_num (by exact rfl) (by exact rfl) (by exact m_inc (by omega))) ?_; refine wO_val (a_mov (by exact rfl)) ?_; refine wO_nil ?_
            refine kR_k (by simp only [keepE, dstE, geT, paramsE, cond_true, cond_false, Nat.beq]; exact rfl) ?_; refine kS_n ?_
            refine ⟨n - 1, by omega, 1, .slice (some ⟨hi.next + 2, 0, none⟩) 1 UNK, by omega, rfl, rfl, rfl, ?_, ?_, ?_, ?_⟩
            · exact (hx4.push (.cells [.int .i64 x.worth] true 1)).wr (Nat.le_refl _) (Nat.le_succ _)
            · (simp only [z1, z2]; omega)
            · (simp (disch := first | omega | (simp only [z1, z2]; omega)) only [z3, z4, z5, z6, z7, z1, z2, *]; exact rfl)
            · exact .full (vs := [.int .i64 x.worth]) (by omega) (by (simp only [z1, z2]; omega)) (by (simp (disch := first | omega | (simp only [z1, z2]; omega) | (simp only [z1, z2]; done) | fail) only [z8, z4, z5, z9, z7, z1, z2, *]; done)) rfl (by omega)
          | @full q _ ws h1 h2 h3 h4 h5 =>
            refine wE_seq ?_; refine wE_region ?_; refine wO_val (a_num (by exact rfl) (by exact rfl) (by exact m_geqT (by omega))) ?_; refine wO_nil ?_; refine kR_k (by simp only [keepE, dstE, geT, paramsE, cond_true, cond_false, Nat.beq]; exact rfl) ?_; refine kS_n ?_; refine wE_seq ?_; refine wE_true (by exact rfl) ?_; refine wE_skip ?_; refine kS_n ?_; refine wE_seq ?_; refine wE_block ?_; refine wE_seq ?_
            refine wE_region ?_
            refine wO_val (a_iaddrS (by exact rfl) (by exact rfl) hlt) ?_
            refine wO_val (a_loadN (by exact rfl) g1 g2 (by exact rfl)) ?_
            refine wO_val a_new ?_; refine wO_val (a_store (by exact rfl) (by exact rfl) (by (simp (disch := first | omega | (simp only [z1, z2]; omega)) only [z3, z4, z5, z6, z7, z1, z2, *]; exact rfl)) (by exact rfl) (by exact rfl)) ?_; refine wO_nil ?_
            refine kR_k (by simp only [keepE, dstE, geT, paramsE, cond_true, cond_false, Nat.beq]; exact rfl) ?_; refine kS_n ?_; refine wE_draw ?_; refine wD_quiet rfl rfl rfl (by exact rfl) (by exact rfl) (by exact rfl) (a_mov (by exact rfl)) ?_; refine wD_quiet rfl rfl rfl (by exact rfl) (by exact rfl) (by exact rfl) (a_mov (by exact rfl)) ?_
            refine wD_quiet rfl rfl rfl (by exact rfl) (by exact rfl) (by exact rfl) (a_nilchk (by exact rfl)) ?_; refine wD_quiet rfl rfl rfl (by exact rfl) (by exact rfl) (by exact rfl) (a_faddr (by exact rfl)) ?_
            refine wD_quiet rfl rfl rfl (by exact rfl) (by exact rfl) (by exact rfl) (a_load (by exact rfl) (by (simp (disch := first | omega | (simp only [z1, z2]; omega)) only [z3, z4, z5, z6, z7, z1, z2, *]; exact rfl)) (by exact rfl)) ?_
            refine wD_quiet rfl rfl rfl (by exact rfl) (by exact rfl) (by exact rfl) (a_faddr (by exact rfl)) ?_
            refine wD_quiet rfl rfl rfl (by exact rfl) (by exact rfl) (by exact rfl) (a_load (by exact rfl) (by (simp (disch := first | omega | (simp only [z1, z2]; omega)) only [z3, z4, z5, z6, z7, z1, z2, *]; exact rfl)) (by exact rfl)) ?_
            refine wD_new rfl rfl rfl (by exact rfl) (by exact rfl) (by exact rfl) (a_bslice (by exact rfl) (by exact rfl)) (by refine rs_cons (rq_quiet rfl (a_load (by exact rfl) (by (simp (disch := first | omega | (simp only [z1, z2]; omega)) only [z3, z4, z5, z6, z7, z1, z2, *]; exact rfl)) (by exact rfl)) (by exact sv_int _ _)) ?_; refine rs_cons (rq_quiet rfl (a_faddr (by exact rfl)) (by exact sv_ptr _)) ?_; refine rs_cons (rq_quiet rfl (a_load (by exact rfl) (by (simp (disch := first | omega | (simp only [z1, z2]; omega)) only [z3, z4, z5, z6, z7, z1, z2, *]; exact rfl)) (by exact rfl)) (by exact sv_slice _ _ _)) ?_; refine rs_cons (rq_quiet rfl (a_faddr (by exact rfl)) (by exact sv_ptr _)) ?_; refine rs_cons (rq_quiet rfl (a_nilchk (by exact rfl)) (by exact sv_ptr _)) ?_; refine rs_cons (rq_quiet rfl (a_mov (by exact rfl)) (by exact sv_ptr _)) ?_; refine rs_cons (rq_quiet rfl (a_mov (by exact rfl)) (by exact sv_ptr _)) ?_; exact rs_nil) ?_
            refine wD_app_open (n := 1) (vs := ws) rfl rfl rfl (by exact rfl) (by exact rfl) (by exact rfl) (src_log (src_slice (cs := [.int .i64 x.worth]) (by (simp (disch := first | omega | (simp only [z1, z2]; omega) | (simp only [z1, z2]; done) | fail) only [z8, z4, z5, z9, z7, z1, z2, *]; exact rfl)) rfl rfl)) (by omega) (by (simp (disch := first | omega | (simp only [z1, z2]; omega)) only [z3, z4, z5, z6, z7, z1, z2, *]; done)) (by omega) (by omega) rfl (by omega) rfl (by (simp only [z1, z2]; omega)) (by omega) (by apply ra_dropC rfl; apply ra_dropC rfl; apply ra_dropC rfl; apply ra_dropC rfl; apply ra_dropC rfl; apply ra_dropC rfl; apply ra_dropC rfl; apply ra_keepC rfl (rq_quiet rfl (a_mov (by exact rfl)) (by exact sv_ptr _)) rfl; exact ra_nil) ?_
            refine wD_quiet rfl rfl rfl (by exact rfl) (by exact rfl) (by exact rfl) (a_nilchk (by exact rfl)) ?_; refine wD_quiet rfl rfl rfl (by exact rfl) (by exact rfl) (by exact rfl) (a_faddr (by exact rfl)) ?_
            refine wD_store rfl rfl rfl (by exact rfl) (by exact rfl) (by exact rfl) (by (simp (disch := first | omega | (simp only [z1, z2]; omega)) only [z3, z4, z5, z6, z7, z1, z2, *]; exact rfl)) (by exact rfl) (by exact rfl) (by (simp only [z1, z2]; omega)) (by omega) (by apply ra_dropC rfl; apply ra_dropC rfl; apply ra_dropC rfl; exact ra_nil) ?_
            refine wD_nil ?_; refine kR_k (by simp only [keepE, dstE, geT, paramsE, cond_true, cond_false, Nat.beq]; exact rfl) ?_; refine kB_n ?_; refine kS_n ?_; refine wE_region ?_; refine wO_val (a_num (by exact rfl) (by exact rfl) (by exact m_inc (by omega))) ?_; refine wO_val (a_mov (by exact rfl)) ?_; refine wO_nil ?_
            refine kR_k (by simp only [keepE, dstE, geT, paramsE, cond_true, cond_false, Nat.beq]; exact rfl) ?_; refine kS_n ?_
            refine ⟨n - (i + 1), by omega, i + 1, .slice (some ⟨hi.next + 2, 0, none⟩) (i + 1) UNK, by omega, rfl, rfl, rfl, ?_, ?_, ?_, ?_⟩
            · exact ((hx4.wr (x := q) (base := h.next) (o := .dead) (show h.next + 1 ≤ q by omega) (by omega)).push (.cells (lcat ws [.int .i64 x.worth]) true 1)).wr (Nat.le_refl _) (Nat.le_succ _)
            · (simp only [z1, z2]; omega)
            · (simp (disch := first | omega | (simp only [z1, z2]; omega)) only [z3, z4, z5, z6, z7, z1, z2, *]; exact rfl)
            · exact .full (vs := lcat ws [.int .i64 x.worth]) (by omega) (by (simp only [z1, z2]; omega)) (by (simp (disch := first | omega | (simp only [z1, z2]; omega) | (simp only [z1, z2]; done) | fail) only [z8, z4, z5, z9, z7, z1, z2, *]; done)) (by rw [lcat_eq, List.length_append, h4]; rfl) (by omega)
      · obtain rfl : i = n := by omega
        refine wE_seq ?_; refine wE_region ?_; refine wO_val (a_num (by exact rfl) (by exact rfl) (by exact m_geqF (by omega))) ?_; refine wO_nil ?_; refine kR_k (by simp only [keepE, dstE, geT, paramsE, cond_true, cond_false, Nat.beq]; exact rfl) ?_; refine kS_n ?_; refine wE_seq ?_; refine wE_false (by exact rfl) ?_; refine wE_exit ?_; refine kS_e ?_; refine kS_e ?_; refine kB_e ?_; refine kS_n ?_
        refine wE_seq ?_; refine wE_region ?_; refine wO_val (a_mov (by exact rfl)) ?_; refine wO_val (a_mov (by exact rfl)) ?_; refine wO_val (a_mov (by exact rfl)) ?_; refine wO_nil ?_; refine kR_k (by simp only [keepE, dstE, geT, paramsE, cond_true, cond_false, Nat.beq]; exact rfl) ?_; refine kS_n ?_; refine wE_ret ?_
        exact endA_ret (vs := [.pointer _, .int .i64 0]) (hx1.log.trans hr.log) rfl ⟨_, rfl⟩
  · rw [if_neg hc]
    refine wO_val (a_mov (by exact rfl)) ?_; refine wO_nil ?_; refine kR_k (by simp only [keepE, dstE, geT, paramsE, cond_true, cond_false, Nat.beq]; exact rfl) ?_; refine kS_n ?_; refine wE_seq ?_; refine wE_region ?_; refine wO_val (a_mov (by exact rfl)) ?_; refine wO_val (a_num (by exact rfl) (by exact rfl) (by exact m_neqT (by omega))) ?_; refine wO_nil ?_
    refine kR_k (by simp only [keepE, dstE, geT, paramsE, cond_true, cond_false, Nat.beq]; exact rfl) ?_; refine kS_n ?_; refine wE_true (by exact rfl) ?_; refine wE_seq ?_; refine wE_region ?_; refine wO_val (a_mov (by exact rfl)) ?_; refine wO_val (a_mov (by exact rfl)) ?_; refine wO_val (a_mov (by exact rfl)) ?_; refine wO_nil ?_
    refine kR_k (by simp only [keepE, dstE, geT, paramsE, cond_true, cond_false, Nat.beq]; exact rfl) ?_; refine kS_n ?_; refine wE_ret ?_; refine kS_r ?_
    exact endA_ret (vs := [.pointer none, .int .i64 (chk kerf l)]) hr.log rfl ⟨_, rfl⟩
end Go.A.Pk
end
section
set_option maxRecDepth 100000
namespace Go.A.Pk
variable {T : Nat → Option AFunc}
def orErr (er : Int) (Q : Value → Heap → Prop) (v : Value) (h : Heap) : Prop := if er = 0 then Q v h else SawQ er 0 [] v h
theorem orErr.gc {er : Int} {Q : Value → Heap → Prop} {h : Heap} (hQ : ∀ v h1, noRef v = true → Q v h1 → Q v h) (v : Value) (h1 : Heap) (hv : noRef v = true) (q : orErr er Q v h1) : orErr er Q v h := by
  unfold orErr at q ⊢
  split
  · rename_i h0; rw [if_pos h0] at q; exact hQ v h1 hv q
  · rename_i h0; rw [if_neg h0] at q; exact SawQ.gc v h1 hv q
theorem startE_one (kerf : Int) (l : List Kd) (p : Prop) [Decidable p] : startE kerf l [decide p] = asked kerf l p := by
  unfold startE asked
  by_cases hp : p <;> simp [hp]
structure FnsH (T : Nat → Option AFunc) : Prop extends FnsE T where
  f59 : T 59 = some f59
  f60 : T 60 = some f60
  f61 : T 61 = some f61
  f114 : T 114 = some f114
  f39 : T 39 = some f39
end Go.A.Pk
end
section
set_option maxRecDepth 100000
namespace Go.A.Pk
variable {T : Nat → Option AFunc}
def wb : Value → Option Nat
  | .slice (some a) _ _ => some a.block
  | _ => none
theorem OwnK.wb {lo : Nat} {h : Heap} {v : Value} {l : List Kd} (s : OwnK lo h v l) {x : Nat} (hx : h.next ≤ x ∨ x < lo) : wb v ≠ some x := by
  cases s with
  | nil => simp [Pk.wb]
  | empty h1 h2 => simp only [Pk.wb, ne_eq, Option.some.injEq]; omega
  | full h1 h2 => simp only [Pk.wb, ne_eq, Option.some.injEq]; omega
end Go.A.Pk
end
section
set_option maxRecDepth 100000
namespace Go.A.Pk
variable {T : Nat → Option AFunc}
theorem startE_nil (kerf : Int) (l : List Kd) : startE kerf l [] = chk kerf l := by
  unfold startE
  split
  · rename_i h; simp [h]
  · rfl
theorem full_slice {H : Heap} {b n : Nat} {l : List Kd} (hH : b < H.next) (gH : H.get b = some (.cells (kcs l) true 5)) (hn : l.length = n) (hn2 : n < 2000000) : SliceOf H 5 (.slice (some ⟨b, 0, none⟩) n UNK) n (kcs l) :=
  .mem ⟨hH, ⟨_, _, _, gH, by rw [ltake_eq, ldrop_eq, List.drop_zero, List.take_of_length_le (by rw [kcs_length]; omega)]⟩, by rw [kcs_length]; omega⟩ (by unfold UNK; omega)
end Go.A.Pk
end
section
set_option maxRecDepth 100000
namespace Go.A.Pk
variable {T : Nat → Option AFunc}
theorem asked_zero {kerf : Int} {l : List Kd} {p : Prop} [Decidable p] (h : asked kerf l p = 0) : chk kerf l = 0 ∧ p := by
  unfold asked at h
  by_cases h0 : chk kerf l = 0
  · rw [if_pos h0] at h
    by_cases hp : p
    · exact ⟨h0, hp⟩
    · rw [if_neg hp] at h; omega
  · rw [if_neg h0] at h; exact absurd h h0
end Go.A.Pk
end
section
set_option maxRecDepth 100000
namespace Go.A.Pk
variable {T : Nat → Option AFunc}
theorem OwnK.form {lo : Nat} {h : Heap} {v : Value} {l : List Kd} (s : OwnK lo h v l) : ∃ a c, v = .slice a l.length c := by
  cases s with
  | nil => exact ⟨_, _, rfl⟩
  | empty => exact ⟨_, _, rfl⟩
  | full _ _ _ h4 => subst h4; exact ⟨_, _, rfl⟩
end Go.A.Pk
end
section
set_option maxRecDepth 100000
namespace Go.A.Pk
variable {T : Nat → Option AFunc}
def sw (x : Kd) : Kd := { x with w := x.h, h := x.w }
def tn : Nat → List Kd → List Kd
  | 0, l => l
  | i + 1, l => (tn i l).modify i sw
theorem tn_len : ∀ (i : Nat) (l : List Kd), (tn i l).length = l.length
  | 0, _ => rfl
  | i + 1, l => by simp [tn, tn_len i l]
theorem kcs_sw : ∀ (l : List Kd) (i : Nat) (x : Kd), l[i]? = some x → lset (lset (kcs l) (i * 5 + 1) (.int .i64 x.h)) (i * 5 + 2) (.int .i64 x.w) = kcs (l.modify i sw)
  | [], _, _, h => by simp at h
  | k :: l, 0, x, h => by
    simp only [List.getElem?_cons_zero, Option.some.injEq] at h
    subst h
    simp [kcs, kc, lset, List.modify_cons, sw]
  | k :: l, j + 1, x, h => by
    have e1 : (j + 1) * 5 + 1 = j * 5 + 1 + 5 := by omega
    have e2 : (j + 1) * 5 + 2 = j * 5 + 2 + 5 := by omega
    rw [e1, e2, List.modify_succ_cons]
    simp only [kcs, kc, List.cons_append, List.nil_append, lset]
    rw [List.getElem?_cons_succ] at h
    rw [kcs_sw l j x h]
theorem kcs_len1 (l : List Kd) (i : Nat) (v : Value) : (lset (kcs l) i v).length = l.length * 5 := by rw [lset_eq, List.length_set, kcs_length]
set_option maxHeartbeats 4000000 in
theorem turned39 (G : FnsH T) {h : Heap} (hr : Rdy h) {a : Option Addr} {n c : Nat} {l : List Kd} (hs : SliceOf h 5 (.slice a n c) n (kcs l)) (kerf : Int) (hn : n < 1000000) :
    Al T 39 [.agg #[.slice a n c, .int .i64 kerf]] h (orErr (chk kerf l) (SawQ 0 kerf (tn l.length l))) := by
  refine .of G.toFnsA.p G.f39 hr (orErr.gc SawQ.gc) ?_
  have hx : Ext h ((h.push (.cells [.slice a n c, .int .i64 kerf] true 1)).push (.cells [.slice none 0 0, .int .i64 0] true 1)) := ((Ext.refl h).push _).push _
  obtain rfl : n = l.length := by have := hs.len; rw [kcs_length] at this; omega
  refine wE_seq ?_; refine wE_region ?_; refine wO_val (a_box (by exact rfl) (by exact rfl)) ?_; refine wO_val a_new ?_; refine wO_val (a_mov (by exact rfl)) ?_; refine wO_nil ?_; refine kR_k (by simp only [keepE, dstE, geT, paramsE, cond_true, cond_false, Nat.beq]; exact rfl) ?_; refine kS_n ?_; refine wE_seq ?_; refine wE_seq ?_; refine wE_region ?_
  refine wO_val (a_loadN (by exact rfl) (by (simp (disch := first | omega | (simp only [z1, z2]; omega)) only [z3, z4, z5, z6, z7, z1, z2, *]; exact rfl)) (by exact rfl) (by exact rfl)) ?_
  refine wO_call (a_call (by exact rfl) (by exact rfl) (by exact rfl) (by exact rfl)) ?_
  refine FW.al (started75 G.toFnsE (.of (hx.wf hr.wf)) ((hs.ext hx).log []) kerf (by omega) (bl := []) (m := 0) .nil (by omega)) (fun _ _ _ q => q) ?_
  rintro _ h1 hx3 ⟨p, rfl⟩
  rw [startE_nil]
  have hN : h.next + 2 ≤ h1.next := hx3.next
  have g1 : h1.get h.next = some (.cells [.slice a l.length c, .int .i64 kerf] true 1) := by rw [hx3.old _ (by (simp only [z1, z2]; omega))]; (simp (disch := first | omega | (simp only [z1, z2]; omega)) only [z3, z4, z5, z6, z7, z1, z2, *]; exact rfl)
  have g3 : h1.get (h.next + 1) = some (.cells [.slice none 0 0, .int .i64 0] true 1) := by rw [hx3.old _ (by (simp only [z1, z2]; omega))]; (simp (disch := first | omega | (simp only [z1, z2]; omega) | (simp only [z1, z2]; done) | fail) only [z8, z4, z5, z9, z7, z1, z2, *]; done)
  have w1 : WF h1 := hx3.wf (hx.wf hr.wf)
  have hx13 : Ext h h1 := hx.trans hx3
  unfold orErr
  by_cases ha : chk kerf l = 0
  · simp only [if_pos ha]
    rw [ha]
    refine wO_val (a_mov (by exact rfl)) ?_; refine wO_val (a_extract (by exact rfl) (by exact rfl)) ?_; refine wO_val (a_extract (by exact rfl) (by exact rfl)) ?_; refine wO_val (a_mov (by exact rfl)) ?_; refine wO_val (a_mov (by exact rfl)) ?_; refine wO_nil ?_; refine kR_k (by simp only [keepE, dstE, geT, paramsE, cond_true, cond_false, Nat.beq]; exact rfl) ?_; refine kS_n ?_; refine wE_seq ?_
    refine wE_region ?_; refine wO_val (a_mov (by exact rfl)) ?_; refine wO_val (a_num (by exact rfl) (by exact rfl) (by exact m_neqF (by omega))) ?_; refine wO_nil ?_; refine kR_k (by simp only [keepE, dstE, geT, paramsE, cond_true, cond_false, Nat.beq]; exact rfl) ?_; refine kS_n ?_; refine wE_false (by exact rfl) ?_; refine wE_skip ?_; refine kS_n ?_; refine wE_seq ?_; refine wE_region ?_
    refine wO_val (a_faddr (by exact rfl)) ?_; refine wO_val (a_load (by exact rfl) (by assumption) (by exact rfl)) ?_
    refine wO_call (a_call (by exact rfl) (by exact rfl) (by exact rfl) (by exact rfl)) ?_
    refine FW.al (clone96 G.toFnsE (.of w1) ((hs.ext hx13).log []) (by omega)) (fun _ _ _ q => q.log _) ?_
    rintro v2 h2 hx4 hq
    have hN4 : h1.next ≤ h2.next := hx4.next
    have k1 : h2.get h.next = some (.cells [.slice a l.length c, .int .i64 kerf] true 1) := by rw [hx4.old _ (by omega)]; assumption
    have k3 : h2.get (h.next + 1) = some (.cells [.slice none 0 0, .int .i64 0] true 1) := by rw [hx4.old _ (by omega)]; assumption
    clear g1 g3
    have hx14 := hx13.trans hx4
    cases hq with
    | nil =>
      refine wO_val (a_faddr (by exact rfl)) ?_; refine wO_val (a_store (by exact rfl) (by exact rfl) (by assumption) (by exact rfl) (by exact rfl)) ?_; refine wO_nil ?_; refine kR_k (by simp only [keepE, dstE, geT, paramsE, cond_true, cond_false, Nat.beq]; exact rfl) ?_; refine kS_n ?_; refine wE_seq ?_; refine wE_seq ?_; refine wE_region ?_; refine wO_val (a_faddr (by exact rfl)) ?_
      refine wO_val (a_load (by exact rfl) (by (simp (disch := first | omega | (simp only [z1, z2]; omega)) only [z3, z4, z5, z6, z7, z1, z2, *]; exact rfl)) (by exact rfl)) ?_; refine wO_val (a_len1 (by exact rfl)) ?_; refine wO_val (a_mov (by exact rfl)) ?_; refine wO_nil ?_
      refine kR_k (by simp only [keepE, dstE, geT, paramsE, cond_true, cond_false, Nat.beq]; exact rfl) ?_; refine kS_n ?_; refine wE_block ?_
      refine wE_loop (fun k e ds h' => e = [(1, .pointer (some ⟨h.next, 0, none⟩)), (2, .pointer (some ⟨h.next + 1, 0, none⟩)), (22, .slice none 0 0), (23, .int .i64 (0 : Nat)), (24, .int .i64 (0 : Nat))] ∧ ds = [] ∧ h' = h2.wr h.next h.next (.cells [.slice none 0 0, .int .i64 kerf] true 1)) (k := 0) ⟨rfl, rfl, rfl⟩ ?_
      rintro _ _ _ _ ⟨rfl, rfl, rfl⟩
      refine wE_seq ?_; refine wE_region ?_; refine wO_val (a_num (by exact rfl) (by exact rfl) (by exact m_geqF (by omega))) ?_; refine wO_nil ?_; refine kR_k (by simp only [keepE, dstE, geT, paramsE, cond_true, cond_false, Nat.beq]; exact rfl) ?_; refine kS_n ?_; refine wE_seq ?_; refine wE_false (by exact rfl) ?_; refine wE_exit ?_; refine kS_e ?_; refine kS_e ?_; refine kB_e ?_; refine kS_n ?_
      refine wE_seq ?_; refine wE_region ?_; refine wO_val (a_loadN (by exact rfl) (by (simp (disch := first | omega | (simp only [z1, z2]; omega)) only [z3, z4, z5, z6, z7, z1, z2, *]; exact rfl)) (by exact rfl) (by exact rfl)) ?_
      refine wO_val (a_store (by exact rfl) (by exact rfl) (by (simp (disch := first | omega | (simp only [z1, z2]; omega)) only [z3, z4, z5, z6, z7, z1, z2, *]; exact rfl)) (by exact rfl) (by exact rfl)) ?_; refine wO_val (a_mov (by exact rfl)) ?_; refine wO_nil ?_
      refine kR_k (by simp only [keepE, dstE, geT, paramsE, cond_true, cond_false, Nat.beq]; exact rfl) ?_; refine kS_n ?_; refine wE_ret ?_
      refine endA_ret (vs := [.agg (List.toArray [.slice none 0 0, .int .i64 kerf]), .int .i64 0]) ((Heap.log_wr_new (Nat.le_succ _)).trans ((Heap.log_wr_new (Nat.le_refl _)).trans (hx14.log.trans hr.log))) ?_ ?_
      · exact res_cells (b := h.next + 1) rfl (by (simp (disch := first | omega | (simp only [z1, z2]; omega)) only [z3, z4, z5, z6, z7, z1, z2, *]; exact rfl)) rfl rfl (res_slot rfl res_nil)
      · exact SawQ.ret .nil
    | @empty b2 q1 q2 q3 =>
      refine wO_val (a_faddr (by exact rfl)) ?_; refine wO_val (a_store (by exact rfl) (by exact rfl) (by assumption) (by exact rfl) (by exact rfl)) ?_; refine wO_nil ?_; refine kR_k (by simp only [keepE, dstE, geT, paramsE, cond_true, cond_false, Nat.beq]; exact rfl) ?_; refine kS_n ?_; refine wE_seq ?_; refine wE_seq ?_; refine wE_region ?_; refine wO_val (a_faddr (by exact rfl)) ?_
      refine wO_val (a_load (by exact rfl) (by (simp (disch := first | omega | (simp only [z1, z2]; omega)) only [z3, z4, z5, z6, z7, z1, z2, *]; exact rfl)) (by exact rfl)) ?_; refine wO_val (a_len1 (by exact rfl)) ?_; refine wO_val (a_mov (by exact rfl)) ?_; refine wO_nil ?_
      refine kR_k (by simp only [keepE, dstE, geT, paramsE, cond_true, cond_false, Nat.beq]; exact rfl) ?_; refine kS_n ?_; refine wE_block ?_
      refine wE_loop (fun k e ds h' => e = [(1, .pointer (some ⟨h.next, 0, none⟩)), (2, .pointer (some ⟨h.next + 1, 0, none⟩)), (22, .slice (some ⟨b2, 0, none⟩) 0 0), (23, .int .i64 (0 : Nat)), (24, .int .i64 (0 : Nat))] ∧ ds = [] ∧ h' = h2.wr h.next h.next (.cells [.slice (some ⟨b2, 0, none⟩) 0 0, .int .i64 kerf] true 1)) (k := 0) ⟨rfl, rfl, rfl⟩ ?_
      rintro _ _ _ _ ⟨rfl, rfl, rfl⟩
      refine wE_seq ?_; refine wE_region ?_; refine wO_val (a_num (by exact rfl) (by exact rfl) (by exact m_geqF (by omega))) ?_; refine wO_nil ?_; refine kR_k (by simp only [keepE, dstE, geT, paramsE, cond_true, cond_false, Nat.beq]; exact rfl) ?_; refine kS_n ?_; refine wE_seq ?_; refine wE_false (by exact rfl) ?_; refine wE_exit ?_; refine kS_e ?_; refine kS_e ?_; refine kB_e ?_; refine kS_n ?_
      refine wE_seq ?_; refine wE_region ?_; refine wO_val (a_loadN (by exact rfl) (by (simp (disch := first | omega | (simp only [z1, z2]; omega)) only [z3, z4, z5, z6, z7, z1, z2, *]; exact rfl)) (by exact rfl) (by exact rfl)) ?_
      refine wO_val (a_store (by exact rfl) (by exact rfl) (by (simp (disch := first | omega | (simp only [z1, z2]; omega)) only [z3, z4, z5, z6, z7, z1, z2, *]; exact rfl)) (by exact rfl) (by exact rfl)) ?_; refine wO_val (a_mov (by exact rfl)) ?_; refine wO_nil ?_
      refine kR_k (by simp only [keepE, dstE, geT, paramsE, cond_true, cond_false, Nat.beq]; exact rfl) ?_; refine kS_n ?_; refine wE_ret ?_
      have q1' : h1.next ≤ b2 := q1
      refine endA_ret (vs := [.agg (List.toArray [.slice (some ⟨b2, 0, none⟩) 0 0, .int .i64 kerf]), .int .i64 0]) ((Heap.log_wr_new (Nat.le_succ _)).trans ((Heap.log_wr_new (Nat.le_refl _)).trans (hx14.log.trans hr.log))) ?_ ?_
      · exact res_cells (b := h.next + 1) rfl (by (simp (disch := first | omega | (simp only [z1, z2]; omega)) only [z3, z4, z5, z6, z7, z1, z2, *]; exact rfl)) rfl rfl (res_slot rfl res_nil)
      · exact SawQ.ret (.mem ⟨q2, ⟨[], true, 5, by (simp (disch := first | omega | (simp only [z1, z2]; omega)) only [z3, z4, z5, z6, z7, z1, z2, *]; done), rfl⟩, rfl⟩ (Nat.le_refl _))
    | @full b2 n2 _ q1 q2 q3 q4 q5 =>
      subst q4
      have q1' : h1.next ≤ b2 := q1
      have nl : ∀ i, (tn i l).length = l.length := fun i => tn_len i l
      refine wO_val (a_faddr (by exact rfl)) ?_; refine wO_val (a_store (by exact rfl) (by exact rfl) (by assumption) (by exact rfl) (by exact rfl)) ?_; refine wO_nil ?_; refine kR_k (by simp only [keepE, dstE, geT, paramsE, cond_true, cond_false, Nat.beq]; exact rfl) ?_; refine kS_n ?_; refine wE_seq ?_; refine wE_seq ?_; refine wE_region ?_; refine wO_val (a_faddr (by exact rfl)) ?_
      refine wO_val (a_load (by exact rfl) (by (simp (disch := first | omega | (simp only [z1, z2]; omega)) only [z3, z4, z5, z6, z7, z1, z2, *]; exact rfl)) (by exact rfl)) ?_; refine wO_val (a_len1 (by exact rfl)) ?_; refine wO_val (a_mov (by exact rfl)) ?_; refine wO_nil ?_
      refine kR_k (by simp only [keepE, dstE, geT, paramsE, cond_true, cond_false, Nat.beq]; exact rfl) ?_; refine kS_n ?_; refine wE_block ?_
      refine wE_loop (fun k e ds h' => ∃ i : Nat, i ≤ l.length ∧ k = l.length - i ∧ e = [(1, .pointer (some ⟨h.next, 0, none⟩)), (2, .pointer (some ⟨h.next + 1, 0, none⟩)), (22, .slice (some ⟨b2, 0, none⟩) l.length UNK), (23, .int .i64 l.length), (24, .int .i64 i)] ∧ ds = [] ∧ Ext h h' ∧
          h2.next ≤ h'.next ∧ h'.get h.next = some (.cells [.slice (some ⟨b2, 0, none⟩) l.length UNK, .int .i64 kerf] true 1) ∧ h'.get (h.next + 1) = some (.cells [.slice none 0 0, .int .i64 0] true 1) ∧ h'.get b2 = some (.cells (kcs (tn i l)) true 5))
        ⟨0, Nat.zero_le _, rfl, rfl, rfl, hx14.wr (Nat.le_refl _) (Nat.le_refl _), Nat.le_refl _, by (simp (disch := first | omega | (simp only [z1, z2]; omega)) only [z3, z4, z5, z6, z7, z1, z2, *]; exact rfl), by (simp (disch := first | omega | (simp only [z1, z2]; omega)) only [z3, z4, z5, z6, z7, z1, z2, *]; done), by (simp (disch := first | omega | (simp only [z1, z2]; omega)) only [z3, z4, z5, z6, z7, z1, z2, *]; exact rfl)⟩ ?_
      rintro k e ds hi ⟨i, hin, rfl, rfl, rfl, hxi, hnx, m1, m2, m3⟩
      by_cases hlt : i < l.length
      · obtain ⟨x, hxl⟩ : ∃ x, (tn i l)[i]? = some x := ⟨(tn i l)[i]'(by rw [nl]; exact hlt), List.getElem?_eq_getElem _⟩
        have s0 : SliceAt hi b2 0 l.length 5 (kcs (tn i l)) := ⟨by omega, ⟨_, _, _, m3, by rw [ltake_eq, ldrop_eq, List.drop_zero, List.take_of_length_le (by rw [kcs_length, nl]; omega)]⟩, by rw [kcs_length, nl]⟩
        obtain ⟨vs, own, t, g5, g6⟩ := slice_elem s0 hxl
        rw [m3] at g5
        obtain ⟨rfl, rfl, rfl⟩ : kcs (tn i l) = vs ∧ true = own ∧ 5 = t := by cases g5; exact ⟨rfl, rfl, rfl⟩
        clear g5
        refine wE_seq ?_; refine wE_region ?_; refine wO_val (a_num (by exact rfl) (by exact rfl) (by exact m_geqT (by omega))) ?_; refine wO_nil ?_; refine kR_k (by simp only [keepE, dstE, geT, paramsE, cond_true, cond_false, Nat.beq]; exact rfl) ?_; refine kS_n ?_; refine wE_seq ?_; refine wE_true (by exact rfl) ?_; refine wE_skip ?_; refine kS_n ?_; refine wE_seq ?_; refine wE_block ?_; refine wE_seq ?_
        refine wE_region ?_; refine wO_val (a_mov (by exact rfl)) ?_
        refine wO_val (a_iaddrS (by exact rfl) (by exact rfl) hlt) ?_
        refine wO_val (a_loadN (by exact rfl) m3 g6 (by exact rfl)) ?_
        refine wO_val a_new ?_; refine wO_val (a_mov (by exact rfl)) ?_; refine wO_val (a_store (by exact rfl) (by exact rfl) (by (simp (disch := first | omega | (simp only [z1, z2]; omega)) only [z3, z4, z5, z6, z7, z1, z2, *]; exact rfl)) (by exact rfl) (by exact rfl)) ?_; refine wO_nil ?_
        refine kR_k (by simp only [keepE, dstE, geT, paramsE, cond_true, cond_false, Nat.beq]; exact rfl) ?_; refine kS_n ?_; refine wE_draw ?_; refine wD_quiet rfl rfl rfl (by exact rfl) (by exact rfl) (by exact rfl) (a_faddr (by exact rfl)) ?_
        refine wD_quiet rfl rfl rfl (by exact rfl) (by exact rfl) (by exact rfl) (a_load (by exact rfl) (by (simp (disch := first | omega | (simp only [z1, z2]; omega)) only [z3, z4, z5, z6, z7, z1, z2, *]; exact rfl)) (by exact rfl)) ?_
        refine wD_quiet rfl rfl rfl (by exact rfl) (by exact rfl) (by exact rfl) (a_mov (by exact rfl)) ?_; refine wD_quiet rfl rfl rfl (by exact rfl) (by exact rfl) (by exact rfl) (a_faddr (by exact rfl)) ?_
        refine wD_quiet rfl rfl rfl (by exact rfl) (by exact rfl) (by exact rfl) (a_load (by exact rfl) (by (simp (disch := first | omega | (simp only [z1, z2]; omega)) only [z3, z4, z5, z6, z7, z1, z2, *]; exact rfl)) (by exact rfl)) ?_
        refine wD_quiet rfl rfl rfl (by exact rfl) (by exact rfl) (by exact rfl) (a_mov (by exact rfl)) ?_; refine wD_quiet rfl rfl rfl (by exact rfl) (by exact rfl) (by exact rfl) (a_faddr (by exact rfl)) ?_
        refine wD_quiet rfl rfl rfl (by exact rfl) (by exact rfl) (by exact rfl) (a_load (by exact rfl) (by (simp (disch := first | omega | (simp only [z1, z2]; omega)) only [z3, z4, z5, z6, z7, z1, z2, *]; exact rfl)) (by exact rfl)) ?_
        refine wD_quiet rfl rfl rfl (by exact rfl) (by exact rfl) (by exact rfl) (a_faddr (by exact rfl)) ?_
        refine wD_quiet rfl rfl rfl (by exact rfl) (by exact rfl) (by exact rfl) (a_load (by exact rfl) (by (simp (disch := first | omega | (simp only [z1, z2]; omega)) only [z3, z4, z5, z6, z7, z1, z2, *]; exact rfl)) (by exact rfl)) ?_
        refine wD_quiet rfl rfl rfl (by exact rfl) (by exact rfl) (by exact rfl) (a_iaddrS (by exact rfl) (by exact rfl) hlt) ?_
        refine wD_quiet rfl rfl rfl (by exact rfl) (by exact rfl) (by exact rfl) (a_faddr (by exact rfl)) ?_
        have hl1 := kcs_len1 (tn i l) (i * 5 + 1) (.int .i64 x.h)
        have c1 : (Nat.beq (llen (cellsOf (.int .i64 x.h))) 1 && Nat.ble (0 + i * 5 + 1 + 1) (llen (kcs (tn i l))) && ones (cellsOf (.int .i64 x.h))) = true := by
          have : Nat.ble (0 + i * 5 + 1 + 1) (llen (kcs (tn i l))) = true := by rw [ble_eq, llen_eq, kcs_length, nl]; simp; omega
          rw [this]; rfl
        have c2 : (Nat.beq (llen (cellsOf (.int .i64 x.w))) 1 && Nat.ble (0 + i * 5 + 2 + 1) (llen (lset (kcs (tn i l)) (i * 5 + 1) (.int .i64 x.h))) && ones (cellsOf (.int .i64 x.w))) = true := by
          have : Nat.ble (0 + i * 5 + 2 + 1) (llen (lset (kcs (tn i l)) (i * 5 + 1) (.int .i64 x.h))) = true := by rw [ble_eq, llen_eq, hl1, nl]; simp; omega
          rw [this]; rfl
        have d1 : lputs (kcs (tn i l)) (0 + i * 5 + 1) (cellsOf (.int .i64 x.h)) = lset (kcs (tn i l)) (i * 5 + 1) (.int .i64 x.h) := by rw [Nat.zero_add]; rfl
        have d2 : lputs (lset (kcs (tn i l)) (i * 5 + 1) (.int .i64 x.h)) (0 + i * 5 + 2) (cellsOf (.int .i64 x.w)) = kcs (tn (i + 1) l) := by rw [Nat.zero_add]; exact kcs_sw _ _ _ hxl
        refine wD_store (vs := kcs (tn i l)) (ws := lset (kcs (tn i l)) (i * 5 + 1) (.int .i64 x.h)) rfl rfl rfl (by exact rfl) (by exact rfl) (by exact rfl) (by (simp (disch := first | omega | (simp only [z1, z2]; omega)) only [z3, z4, z5, z6, z7, z1, z2, *]; exact rfl)) c1 d1 (by (simp only [z1, z2]; omega)) (by omega) (by apply ra_dropC rfl; apply ra_dropC rfl; apply ra_keepC rfl (rq_quiet rfl (a_load (by exact rfl) (by (simp (disch := first | omega | (simp only [z1, z2]; omega)) only [z3, z4, z5, z6, z7, z1, z2, *]; exact rfl)) (by exact rfl)) (by exact sv_int _ _)) rfl; apply ra_keepC rfl (rq_quiet rfl (a_faddr (by exact rfl)) (by exact sv_ptr _)) rfl; apply ra_dropC rfl; apply ra_dropC rfl; apply ra_keepC rfl (rq_quiet rfl (a_mov (by exact rfl)) (by exact sv_int _ _)) rfl; apply ra_keepC rfl (rq_quiet rfl (a_load (by exact rfl) (by (simp (disch := first | omega | (simp only [z1, z2]; omega)) only [z3, z4, z5, z6, z7, z1, z2, *]; exact rfl)) (by exact rfl)) (by exact sv_slice _ _ _)) rfl; apply ra_keepC rfl (rq_quiet rfl (a_faddr (by exact rfl)) (by exact sv_ptr _)) rfl; apply ra_dropC rfl; apply ra_dropC rfl; apply ra_dropC rfl; exact ra_nil) ?_
        skip
        refine wD_quiet rfl rfl rfl (by exact rfl) (by exact rfl) (by exact rfl) (a_iaddrS (by exact rfl) (by exact rfl) hlt) ?_
        refine wD_quiet rfl rfl rfl (by exact rfl) (by exact rfl) (by exact rfl) (a_faddr (by exact rfl)) ?_
        refine wD_store (vs := lset (kcs (tn i l)) (i * 5 + 1) (.int .i64 x.h)) (ws := kcs (tn (i + 1) l)) rfl rfl rfl (by exact rfl) (by exact rfl) (by exact rfl) (by (simp (disch := first | omega | (simp only [z1, z2]; omega)) only [z3, z4, z5, z6, z7, z1, z2, *]; exact rfl)) c2 d2 (by (simp only [z1, z2]; omega)) (by omega) (by apply ra_dropC rfl; apply ra_dropC rfl; apply ra_dropC rfl; apply ra_dropC rfl; apply ra_dropC rfl; apply ra_dropC rfl; apply ra_dropC rfl; exact ra_nil) ?_
        refine wD_nil ?_; refine kR_k (by simp only [keepE, dstE, geT, paramsE, cond_true, cond_false, Nat.beq]; exact rfl) ?_; refine kB_n ?_; refine kS_n ?_; refine wE_region ?_; refine wO_val (a_num (by exact rfl) (by exact rfl) (by exact m_inc (by omega))) ?_; refine wO_val (a_mov (by exact rfl)) ?_; refine wO_nil ?_
        refine kR_k (by simp only [keepE, dstE, geT, paramsE, cond_true, cond_false, Nat.beq]; exact rfl) ?_; refine kS_n ?_
        refine ⟨l.length - (i + 1), by omega, i + 1, by omega, rfl, rfl, rfl, ?_, ?_, ?_, ?_, ?_⟩
        · exact ((((hxi.push (.cells [.int .i64 0, .int .i64 0, .int .i64 0, .int .i64 0, .bool false] true 1)).wr (x := hi.next) (base := h.next) (o := .cells (kc x) true 1) hxi.next hxi.next).wr (x := b2) (base := h.next) (by omega) (by omega)).wr (x := b2) (base := h.next) (by omega) (by omega))
        · (simp only [z1, z2]; omega)
        · (simp (disch := first | omega | (simp only [z1, z2]; omega)) only [z3, z4, z5, z6, z7, z1, z2, *]; done)
        · (simp (disch := first | omega | (simp only [z1, z2]; omega)) only [z3, z4, z5, z6, z7, z1, z2, *]; done)
        · (simp (disch := first | omega | (simp only [z1, z2]; omega)) only [z3, z4, z5, z6, z7, z1, z2, *]; done)
      · obtain rfl : i = l.length := by omega
        refine wE_seq ?_; refine wE_region ?_; refine wO_val (a_num (by exact rfl) (by exact rfl) (by exact m_geqF (by omega))) ?_; refine wO_nil ?_; refine kR_k (by simp only [keepE, dstE, geT, paramsE, cond_true, cond_false, Nat.beq]; exact rfl) ?_; refine kS_n ?_; refine wE_seq ?_; refine wE_false (by exact rfl) ?_; refine wE_exit ?_; refine kS_e ?_; refine kS_e ?_; refine kB_e ?_; refine kS_n ?_
        refine wE_seq ?_; refine wE_region ?_; refine wO_val (a_loadN (by exact rfl) (by assumption) (by exact rfl) (by exact rfl)) ?_; refine wO_val (a_store (by exact rfl) (by exact rfl) (by assumption) (by exact rfl) (by exact rfl)) ?_; refine wO_val (a_mov (by exact rfl)) ?_; refine wO_nil ?_; refine kR_k (by simp only [keepE, dstE, geT, paramsE, cond_true, cond_false, Nat.beq]; exact rfl) ?_
        refine kS_n ?_; refine wE_ret ?_
        refine endA_ret (vs := [.agg (List.toArray [.slice (some ⟨b2, 0, none⟩) l.length UNK, .int .i64 kerf]), .int .i64 0]) ((Heap.log_wr_new (Nat.le_succ _)).trans (hxi.log.trans hr.log)) ?_ ?_
        · exact res_cells (b := h.next + 1) rfl (Heap.get_wr_new m2) rfl rfl (res_slot rfl res_nil)
        · refine SawQ.ret ?_
          rw [nl]
          exact full_slice (show b2 < hi.next by omega) ((z5 (show b2 ≠ h.next + 1 by omega)).trans m3) (nl _) (by omega)
  · simp only [if_neg ha]
    refine wO_val (a_mov (by exact rfl)) ?_; refine wO_val (a_extract (by exact rfl) (by exact rfl)) ?_; refine wO_val (a_extract (by exact rfl) (by exact rfl)) ?_; refine wO_val (a_mov (by exact rfl)) ?_; refine wO_val (a_mov (by exact rfl)) ?_; refine wO_nil ?_; refine kR_k (by simp only [keepE, dstE, geT, paramsE, cond_true, cond_false, Nat.beq]; exact rfl) ?_; refine kS_n ?_; refine wE_seq ?_
    refine wE_region ?_; refine wO_val (a_mov (by exact rfl)) ?_; refine wO_val (a_num (by exact rfl) (by exact rfl) (by exact m_neqT (by omega))) ?_; refine wO_nil ?_; refine kR_k (by simp only [keepE, dstE, geT, paramsE, cond_true, cond_false, Nat.beq]; exact rfl) ?_; refine kS_n ?_; refine wE_true (by exact rfl) ?_; refine wE_seq ?_; refine wE_region ?_; refine wO_val (a_build (by exact rfl)) ?_
    refine wO_val (a_mov (by exact rfl)) ?_; refine wO_val (a_store (by exact rfl) (by exact rfl) (by assumption) (by exact rfl) (by exact rfl)) ?_; refine wO_val (a_mov (by exact rfl)) ?_; refine wO_nil ?_; refine kR_k (by simp only [keepE, dstE, geT, paramsE, cond_true, cond_false, Nat.beq]; exact rfl) ?_; refine kS_n ?_; refine wE_ret ?_; refine kS_r ?_
    refine endA_ret (vs := [.agg (List.toArray [.slice none 0 0, .int .i64 0]), .int .i64 (chk kerf l)]) ((Heap.log_wr_new (Nat.le_succ _)).trans (hx13.log.trans hr.log)) ?_ ?_
    · exact res_cells (b := h.next + 1) rfl (Heap.get_wr_new g3) rfl rfl (res_slot rfl res_nil)
    · exact SawQ.ret .nil
end Go.A.Pk
end
section
set_option maxRecDepth 100000
namespace Go.A.Pk
variable {T : Nat → Option AFunc}
theorem Al.mono {f : Nat} {args : List Value} {h : Heap} {Q Q' : Value → Heap → Prop} (H : Al T f args h Q) (hq : ∀ v h', Q v h' → Q' v h') : Al T f args h Q' :=
  CW.mono H fun r h' ⟨hx, v, hv, q⟩ => ⟨hx, v, hv, hq _ _ q⟩
end Go.A.Pk
end
section
set_option maxRecDepth 100000
namespace Go.A.Pk
variable {T : Nat → Option AFunc}
theorem chk_iff {kerf : Int} {l : List Kd} : chk kerf l = 0 ↔ l.length ≤ 12 ∧ (0 ≤ kerf ∧ kerf ≤ 2) ∧ (∀ k ∈ l, Right k) ∧ l.Pairwise fun x y => x.id ≠ y.id := by
  have key : (List.range l.length).all (goodK l) = true ↔ (∀ k ∈ l, Right k) ∧ l.Pairwise fun x y => x.id ≠ y.id := by
    rw [List.all_eq_true]
    constructor
    · intro h
      have h1 : ∀ (i : Nat) (hi : i < l.length), Right l[i] ∧ ∀ x ∈ l.take i, x.id ≠ l[i].id := fun i hi => by
        have := h i (by simpa using hi)
        unfold goodK at this
        rw [List.getElem?_eq_getElem hi] at this
        simpa using this
      refine ⟨fun k hk => ?_, ?_⟩
      · obtain ⟨i, hi, rfl⟩ := List.getElem_of_mem hk
        exact (h1 i hi).1
      · rw [List.pairwise_iff_getElem]
        intro i j hi hj hij
        exact (h1 j hj).2 _ (by rw [List.mem_take_iff_getElem]; exact ⟨i, by omega, rfl⟩)
    · rintro ⟨h1, h2⟩ i hi
      have hi : i < l.length := by simpa using hi
      unfold goodK
      rw [List.getElem?_eq_getElem hi]
      rw [List.pairwise_iff_getElem] at h2
      simp only [Bool.and_eq_true, decide_eq_true_eq, Bool.not_eq_true', List.any_eq_false, beq_iff_eq]
      refine ⟨h1 _ (List.getElem_mem hi), fun x hx => ?_⟩
      rw [List.mem_take_iff_getElem] at hx
      obtain ⟨j, hj, rfl⟩ := hx
      exact h2 j i (by omega) hi (by omega)
  unfold chk good
  by_cases h12 : 12 < l.length
  · rw [if_pos h12]
    constructor
    · intro h; omega
    · intro h; omega
  · rw [if_neg h12]
    constructor
    · intro h
      split at h
      · rename_i hg
        simp only [Bool.and_eq_true, decide_eq_true_eq] at hg
        exact ⟨by omega, hg.1, key.1 hg.2⟩
      · omega
    · rintro ⟨_, h1, h2⟩
      rw [if_pos]
      simp only [Bool.and_eq_true, decide_eq_true_eq]
      exact ⟨h1, key.2 h2⟩
end Go.A.Pk
end
