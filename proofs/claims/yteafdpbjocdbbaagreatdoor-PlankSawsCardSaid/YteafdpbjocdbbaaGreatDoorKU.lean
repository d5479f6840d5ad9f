/- Walks of small functions and of CheckSaw. -/
import Derived.Test.YteafdpbjocdbbaaGreatDoorKD
import Derived.Test.YteafdpbjocdbbaaGreatDoorKG
set_option linter.all false
section
set_option maxRecDepth 100000
namespace Go.A.Pk
variable {T : Nat → Option AFunc}
structure Kd where
  id : Int
  w : Int
  h : Int
  worth : Int
  turn : Bool
def kc (k : Kd) : List Value := [.int .i64 k.id, .int .i64 k.w, .int .i64 k.h, .int .i64 k.worth, .bool k.turn]
def kcs : List Kd → List Value
  | [] => []
  | k :: l => kc k ++ kcs l
def ka (k : Kd) : Value := .agg #[.int .i64 k.id, .int .i64 k.w, .int .i64 k.h, .int .i64 k.worth, .bool k.turn]
def Right (k : Kd) : Prop := (1 ≤ k.id ∧ k.id ≤ 1000000) ∧ (1 ≤ k.w ∧ k.w ≤ 16) ∧ (1 ≤ k.h ∧ k.h ≤ 16) ∧ (0 ≤ k.worth ∧ k.worth ≤ 1000000)
instance (k : Kd) : Decidable (Right k) := by unfold Right; infer_instance
theorem kcs_length : ∀ (l : List Kd), (kcs l).length = l.length * 5
  | [] => rfl
  | k :: l => by simp [kcs, kc, kcs_length l]; omega
theorem kcs_drop : ∀ (l : List Kd) (i : Nat), (kcs l).drop (i * 5) = kcs (l.drop i)
  | [], i => by simp [kcs]
  | k :: l, 0 => by simp
  | k :: l, i + 1 => by
    rw [List.drop_succ_cons, ← kcs_drop l i, show (i + 1) * 5 = 5 + i * 5 by omega, ← List.drop_drop]
    rfl
theorem kcs_append : ∀ (l m : List Kd), kcs (l ++ m) = kcs l ++ kcs m
  | [], m => rfl
  | k :: l, m => by simp [kcs, kcs_append l m]
theorem kcs_take : ∀ (l : List Kd) (i : Nat), (kcs l).take (i * 5) = kcs (l.take i)
  | [], i => by simp [kcs]
  | k :: l, 0 => by simp [kcs]
  | k :: l, i + 1 => by
    rw [List.take_succ_cons]
    show (kc k ++ kcs l).take _ = kc k ++ kcs (l.take i)
    rw [← kcs_take l i, show (i + 1) * 5 = (kc k).length + i * 5 by simp [kc]; omega, List.take_length_add_append]
theorem slice_elem {h : Heap} {b o n : Nat} {l : List Kd} (s : SliceAt h b o n 5 (kcs l)) {i : Nat} {k : Kd} (hi : l[i]? = some k) : ∃ vs own t, h.get b = some (.cells vs own t) ∧ ltake 5 (ldrop (o + i * 5) vs) = kc k := by
  obtain ⟨vs, own, t, h1, h2⟩ := s.obj
  refine ⟨vs, own, t, h1, ?_⟩
  rw [ltake_eq, ldrop_eq] at h2 ⊢
  have hl := s.len
  rw [kcs_length] at hl
  have hin : i < l.length := (List.getElem?_eq_some_iff.1 hi).1
  have h3 : (vs.drop (o + i * 5)).take 5 = (((vs.drop o).take (n * 5)).drop (i * 5)).take 5 := by
    rw [List.drop_take, List.drop_drop, List.take_take, Nat.min_eq_left (by omega)]
  rw [h3, h2, kcs_drop]
  have : l.drop i = k :: l.drop (i + 1) := by
    rw [List.drop_eq_getElem_cons hin]
    congr 1
    rw [List.getElem?_eq_getElem hin] at hi
    injection hi
  rw [this]
  rfl
theorem in77T (hp : primAS T) (hf : T 77 = some f77) {h : Heap} (hr : Rdy h) {n a b : Int} (hn : a ≤ n ∧ n ≤ b) : Pu T 77 [.int .i64 n, .int .i64 a, .int .i64 b] h (.bool true) := by
  refine .of hp hf hr rfl ?_
  refine wE_seq ?_; refine wE_region ?_; refine wO_val (a_mov (by exact rfl)) ?_; refine wO_nil ?_; refine kR_k (by simp only [keepE, dstE, geT, paramsE, cond_true, cond_false, Nat.beq]; exact rfl) ?_; refine kS_n ?_; refine wE_seq ?_; refine wE_region ?_; refine wO_val (a_mov (by exact rfl)) ?_; refine wO_val (a_mov (by exact rfl)) ?_
  refine wO_val (a_num (by exact rfl) (by exact rfl) (by exact m_geqT (by omega))) ?_; refine wO_val (a_mov (by exact rfl)) ?_; refine wO_on (by exact rfl) ?_; refine wO_val (a_mov (by exact rfl)) ?_; refine wO_on (by exact rfl) ?_; refine wO_val (a_mov (by exact rfl)) ?_; refine wO_on (by exact rfl) ?_; refine wO_val (a_num (by exact rfl) (by exact rfl) (by exact m_geqT (by omega))) ?_
  refine wO_val (a_pickT (by exact rfl) (by exact rfl)) ?_; refine wO_val (a_mov (by exact rfl)) ?_; refine wO_nil ?_; refine kR_k (by simp only [keepE, dstE, geT, paramsE, cond_true, cond_false, Nat.beq]; exact rfl) ?_; refine kS_n ?_; refine wE_ret ?_
  exact endP_ret hr.log rfl rfl
theorem in77F (hp : primAS T) (hf : T 77 = some f77) {h : Heap} (hr : Rdy h) {n a b : Int} (hn : ¬ (a ≤ n ∧ n ≤ b)) : Pu T 77 [.int .i64 n, .int .i64 a, .int .i64 b] h (.bool false) := by
  refine .of hp hf hr rfl ?_
  by_cases h1 : a ≤ n
  · refine wE_seq ?_; refine wE_region ?_; refine wO_val (a_mov (by exact rfl)) ?_; refine wO_nil ?_; refine kR_k (by simp only [keepE, dstE, geT, paramsE, cond_true, cond_false, Nat.beq]; exact rfl) ?_; refine kS_n ?_; refine wE_seq ?_; refine wE_region ?_; refine wO_val (a_mov (by exact rfl)) ?_; refine wO_val (a_mov (by exact rfl)) ?_
    refine wO_val (a_num (by exact rfl) (by exact rfl) (by exact m_geqT (by omega))) ?_; refine wO_val (a_mov (by exact rfl)) ?_; refine wO_on (by exact rfl) ?_; refine wO_val (a_mov (by exact rfl)) ?_; refine wO_on (by exact rfl) ?_; refine wO_val (a_mov (by exact rfl)) ?_; refine wO_on (by exact rfl) ?_; refine wO_val (a_num (by exact rfl) (by exact rfl) (by exact m_geqF (by omega))) ?_
    refine wO_val (a_pickT (by exact rfl) (by exact rfl)) ?_; refine wO_val (a_mov (by exact rfl)) ?_; refine wO_nil ?_; refine kR_k (by simp only [keepE, dstE, geT, paramsE, cond_true, cond_false, Nat.beq]; exact rfl) ?_; refine kS_n ?_; refine wE_ret ?_
    exact endP_ret hr.log rfl rfl
  · refine wE_seq ?_; refine wE_region ?_; refine wO_val (a_mov (by exact rfl)) ?_; refine wO_nil ?_; refine kR_k (by simp only [keepE, dstE, geT, paramsE, cond_true, cond_false, Nat.beq]; exact rfl) ?_; refine kS_n ?_; refine wE_seq ?_; refine wE_region ?_; refine wO_val (a_mov (by exact rfl)) ?_; refine wO_val (a_mov (by exact rfl)) ?_
    refine wO_val (a_num (by exact rfl) (by exact rfl) (by exact m_geqF (by omega))) ?_; refine wO_val (a_mov (by exact rfl)) ?_; refine wO_off (by exact rfl) (by exact rfl) ?_; refine wO_off (by exact rfl) (by exact rfl) ?_; refine wO_off (by exact rfl) (by exact rfl) ?_; refine wO_val (a_pickF (by exact rfl) (by exact rfl)) ?_; refine wO_val (a_mov (by exact rfl)) ?_; refine wO_nil ?_
    refine kR_k (by simp only [keepE, dstE, geT, paramsE, cond_true, cond_false, Nat.beq]; exact rfl) ?_; refine kS_n ?_; refine wE_ret ?_
    exact endP_ret hr.log rfl rfl
theorem in80T (hp : primAS T) (hf : T 80 = some f80) {h : Heap} (hr : Rdy h) {n a b : Int} (hn : a ≤ n ∧ n ≤ b) : Pu T 80 [.int .i64 n, .int .i64 a, .int .i64 b] h (.bool true) := by
  refine .of hp hf hr rfl ?_
  refine wE_seq ?_; refine wE_region ?_; refine wO_val (a_mov (by exact rfl)) ?_; refine wO_nil ?_; refine kR_k (by simp only [keepE, dstE, geT, paramsE, cond_true, cond_false, Nat.beq]; exact rfl) ?_; refine kS_n ?_; refine wE_seq ?_; refine wE_region ?_; refine wO_val (a_mov (by exact rfl)) ?_; refine wO_val (a_mov (by exact rfl)) ?_
  refine wO_val (a_num (by exact rfl) (by exact rfl) (by exact m_geqT (by omega))) ?_; refine wO_val (a_mov (by exact rfl)) ?_; refine wO_on (by exact rfl) ?_; refine wO_val (a_mov (by exact rfl)) ?_; refine wO_on (by exact rfl) ?_; refine wO_val (a_mov (by exact rfl)) ?_; refine wO_on (by exact rfl) ?_; refine wO_val (a_num (by exact rfl) (by exact rfl) (by exact m_geqT (by omega))) ?_
  refine wO_val (a_pickT (by exact rfl) (by exact rfl)) ?_; refine wO_val (a_mov (by exact rfl)) ?_; refine wO_nil ?_; refine kR_k (by simp only [keepE, dstE, geT, paramsE, cond_true, cond_false, Nat.beq]; exact rfl) ?_; refine kS_n ?_; refine wE_ret ?_
  exact endP_ret hr.log rfl rfl
theorem in80F (hp : primAS T) (hf : T 80 = some f80) {h : Heap} (hr : Rdy h) {n a b : Int} (hn : ¬ (a ≤ n ∧ n ≤ b)) : Pu T 80 [.int .i64 n, .int .i64 a, .int .i64 b] h (.bool false) := by
  refine .of hp hf hr rfl ?_
  by_cases h1 : a ≤ n
  · refine wE_seq ?_; refine wE_region ?_; refine wO_val (a_mov (by exact rfl)) ?_; refine wO_nil ?_; refine kR_k (by simp only [keepE, dstE, geT, paramsE, cond_true, cond_false, Nat.beq]; exact rfl) ?_; refine kS_n ?_; refine wE_seq ?_; refine wE_region ?_; refine wO_val (a_mov (by exact rfl)) ?_; refine wO_val (a_mov (by exact rfl)) ?_
    refine wO_val (a_num (by exact rfl) (by exact rfl) (by exact m_geqT (by omega))) ?_; refine wO_val (a_mov (by exact rfl)) ?_; refine wO_on (by exact rfl) ?_; refine wO_val (a_mov (by exact rfl)) ?_; refine wO_on (by exact rfl) ?_; refine wO_val (a_mov (by exact rfl)) ?_; refine wO_on (by exact rfl) ?_; refine wO_val (a_num (by exact rfl) (by exact rfl) (by exact m_geqF (by omega))) ?_
    refine wO_val (a_pickT (by exact rfl) (by exact rfl)) ?_; refine wO_val (a_mov (by exact rfl)) ?_; refine wO_nil ?_; refine kR_k (by simp only [keepE, dstE, geT, paramsE, cond_true, cond_false, Nat.beq]; exact rfl) ?_; refine kS_n ?_; refine wE_ret ?_
    exact endP_ret hr.log rfl rfl
  · refine wE_seq ?_; refine wE_region ?_; refine wO_val (a_mov (by exact rfl)) ?_; refine wO_nil ?_; refine kR_k (by simp only [keepE, dstE, geT, paramsE, cond_true, cond_false, Nat.beq]; exact rfl) ?_; refine kS_n ?_; refine wE_seq ?_; refine wE_region ?_; refine wO_val (a_mov (by exact rfl)) ?_; refine wO_val (a_mov (by exact rfl)) ?_
    refine wO_val (a_num (by exact rfl) (by exact rfl) (by exact m_geqF (by omega))) ?_; refine wO_val (a_mov (by exact rfl)) ?_; refine wO_off (by exact rfl) (by exact rfl) ?_; refine wO_off (by exact rfl) (by exact rfl) ?_; refine wO_off (by exact rfl) (by exact rfl) ?_; refine wO_val (a_pickF (by exact rfl) (by exact rfl)) ?_; refine wO_val (a_mov (by exact rfl)) ?_; refine wO_nil ?_
    refine kR_k (by simp only [keepE, dstE, geT, paramsE, cond_true, cond_false, Nat.beq]; exact rfl) ?_; refine kS_n ?_; refine wE_ret ?_
    exact endP_ret hr.log rfl rfl
theorem right117 (hp : primAS T) (hf : T 117 = some f117) (hf7 : T 77 = some f77) {h : Heap} (hr : Rdy h) (k : Kd) : Pu T 117 [ka k] h (.bool (decide (Right k))) := by
  by_cases c : Right k
  · rw [decide_eq_true c]
    unfold Right at c
    refine .of hp hf hr rfl ?_
    refine wE_seq ?_; refine wE_region ?_; refine wO_val (a_box (by exact rfl) (by exact rfl)) ?_; refine wO_val (a_mov (by exact rfl)) ?_; refine wO_nil ?_; refine kR_k (by simp only [keepE, dstE, geT, paramsE, cond_true, cond_false, Nat.beq]; exact rfl) ?_; refine kS_n ?_; refine wE_seq ?_; refine wE_region ?_; refine wO_val (a_faddr (by exact rfl)) ?_
    refine wO_val (a_load (by exact rfl) (by (simp (disch := first | omega | (simp only [z1, z2]; omega)) only [z3, z4, z5, z6, z7, z1, z2, *]; exact rfl)) (by exact rfl)) ?_
    refine wO_call (a_call (by exact rfl) (by exact rfl) (by exact rfl) (by exact rfl)) ?_
    refine FW.pu (in77T hp hf7 (.of (hr.wf.push _)) (by omega)) ?_
    refine wO_val (a_mov (by exact rfl)) ?_; refine wO_on (by exact rfl) ?_; refine wO_val (a_faddr (by exact rfl)) ?_; refine wO_on (by exact rfl) ?_
    refine wO_val (a_load (by exact rfl) (by (simp (disch := first | omega | (simp only [z1, z2]; omega)) only [z3, z4, z5, z6, z7, z1, z2, *]; exact rfl)) (by exact rfl)) ?_; refine wO_on (by exact rfl) ?_
    refine wO_call (a_call (by exact rfl) (by exact rfl) (by exact rfl) (by exact rfl)) ?_
    refine FW.pu (in77T hp hf7 (.of (hr.wf.push _)) (by omega)) ?_
    refine wO_val (a_pickT (by exact rfl) (by exact rfl)) ?_; refine wO_val (a_mov (by exact rfl)) ?_; refine wO_on (by exact rfl) ?_; refine wO_val (a_faddr (by exact rfl)) ?_; refine wO_on (by exact rfl) ?_
    refine wO_val (a_load (by exact rfl) (by (simp (disch := first | omega | (simp only [z1, z2]; omega)) only [z3, z4, z5, z6, z7, z1, z2, *]; exact rfl)) (by exact rfl)) ?_; refine wO_on (by exact rfl) ?_
    refine wO_call (a_call (by exact rfl) (by exact rfl) (by exact rfl) (by exact rfl)) ?_
    refine FW.pu (in77T hp hf7 (.of (hr.wf.push _)) (by omega)) ?_
    refine wO_val (a_pickT (by exact rfl) (by exact rfl)) ?_; refine wO_val (a_mov (by exact rfl)) ?_; refine wO_on (by exact rfl) ?_; refine wO_val (a_faddr (by exact rfl)) ?_; refine wO_on (by exact rfl) ?_
    refine wO_val (a_load (by exact rfl) (by (simp (disch := first | omega | (simp only [z1, z2]; omega)) only [z3, z4, z5, z6, z7, z1, z2, *]; exact rfl)) (by exact rfl)) ?_; refine wO_on (by exact rfl) ?_
    refine wO_call (a_call (by exact rfl) (by exact rfl) (by exact rfl) (by exact rfl)) ?_
    refine FW.pu (in77T hp hf7 (.of (hr.wf.push _)) (by omega)) ?_
    refine wO_val (a_pickT (by exact rfl) (by exact rfl)) ?_; refine wO_val (a_mov (by exact rfl)) ?_; refine wO_nil ?_; refine kR_k (by simp only [keepE, dstE, geT, paramsE, cond_true, cond_false, Nat.beq]; exact rfl) ?_; refine kS_n ?_; refine wE_ret ?_
    exact endP_ret hr.log rfl rfl
  · rw [decide_eq_false c]
    unfold Right at c
    refine .of hp hf hr rfl ?_
    refine wE_seq ?_; refine wE_region ?_; refine wO_val (a_box (by exact rfl) (by exact rfl)) ?_; refine wO_val (a_mov (by exact rfl)) ?_; refine wO_nil ?_; refine kR_k (by simp only [keepE, dstE, geT, paramsE, cond_true, cond_false, Nat.beq]; exact rfl) ?_; refine kS_n ?_; refine wE_seq ?_; refine wE_region ?_; refine wO_val (a_faddr (by exact rfl)) ?_
    refine wO_val (a_load (by exact rfl) (by (simp (disch := first | omega | (simp only [z1, z2]; omega)) only [z3, z4, z5, z6, z7, z1, z2, *]; exact rfl)) (by exact rfl)) ?_
    refine wO_call (a_call (by exact rfl) (by exact rfl) (by exact rfl) (by exact rfl)) ?_
    by_cases c1 : 1 ≤ k.id ∧ k.id ≤ 1000000
    · refine FW.pu (in77T hp hf7 (.of (hr.wf.push _)) c1) ?_
      refine wO_val (a_mov (by exact rfl)) ?_; refine wO_on (by exact rfl) ?_; refine wO_val (a_faddr (by exact rfl)) ?_; refine wO_on (by exact rfl) ?_
      refine wO_val (a_load (by exact rfl) (by (simp (disch := first | omega | (simp only [z1, z2]; omega)) only [z3, z4, z5, z6, z7, z1, z2, *]; exact rfl)) (by exact rfl)) ?_; refine wO_on (by exact rfl) ?_
      refine wO_call (a_call (by exact rfl) (by exact rfl) (by exact rfl) (by exact rfl)) ?_
      by_cases c2 : 1 ≤ k.w ∧ k.w ≤ 16
      · refine FW.pu (in77T hp hf7 (.of (hr.wf.push _)) c2) ?_
        refine wO_val (a_pickT (by exact rfl) (by exact rfl)) ?_; refine wO_val (a_mov (by exact rfl)) ?_; refine wO_on (by exact rfl) ?_; refine wO_val (a_faddr (by exact rfl)) ?_; refine wO_on (by exact rfl) ?_
        refine wO_val (a_load (by exact rfl) (by (simp (disch := first | omega | (simp only [z1, z2]; omega)) only [z3, z4, z5, z6, z7, z1, z2, *]; exact rfl)) (by exact rfl)) ?_; refine wO_on (by exact rfl) ?_
        refine wO_call (a_call (by exact rfl) (by exact rfl) (by exact rfl) (by exact rfl)) ?_
        by_cases c3 : 1 ≤ k.h ∧ k.h ≤ 16
        · refine FW.pu (in77T hp hf7 (.of (hr.wf.push _)) c3) ?_
          refine wO_val (a_pickT (by exact rfl) (by exact rfl)) ?_; refine wO_val (a_mov (by exact rfl)) ?_; refine wO_on (by exact rfl) ?_; refine wO_val (a_faddr (by exact rfl)) ?_; refine wO_on (by exact rfl) ?_
          refine wO_val (a_load (by exact rfl) (by (simp (disch := first | omega | (simp only [z1, z2]; omega)) only [z3, z4, z5, z6, z7, z1, z2, *]; exact rfl)) (by exact rfl)) ?_; refine wO_on (by exact rfl) ?_
          refine wO_call (a_call (by exact rfl) (by exact rfl) (by exact rfl) (by exact rfl)) ?_
          refine FW.pu (in77F hp hf7 (.of (hr.wf.push _)) (by omega)) ?_
          refine wO_val (a_pickT (by exact rfl) (by exact rfl)) ?_; refine wO_val (a_mov (by exact rfl)) ?_; refine wO_nil ?_; refine kR_k (by simp only [keepE, dstE, geT, paramsE, cond_true, cond_false, Nat.beq]; exact rfl) ?_; refine kS_n ?_; refine wE_ret ?_
          exact endP_ret hr.log rfl rfl
        · refine FW.pu (in77F hp hf7 (.of (hr.wf.push _)) c3) ?_
          refine wO_val (a_pickT (by exact rfl) (by exact rfl)) ?_; refine wO_val (a_mov (by exact rfl)) ?_; refine wO_off (by exact rfl) (by exact rfl) ?_; refine wO_off (by exact rfl) (by exact rfl) ?_; refine wO_off (by exact rfl) (by exact rfl) ?_; refine wO_val (a_pickF (by exact rfl) (by exact rfl)) ?_; refine wO_val (a_mov (by exact rfl)) ?_; refine wO_nil ?_
          refine kR_k (by simp only [keepE, dstE, geT, paramsE, cond_true, cond_false, Nat.beq]; exact rfl) ?_; refine kS_n ?_; refine wE_ret ?_
          exact endP_ret hr.log rfl rfl
      · refine FW.pu (in77F hp hf7 (.of (hr.wf.push _)) c2) ?_
        refine wO_val (a_pickT (by exact rfl) (by exact rfl)) ?_; refine wO_val (a_mov (by exact rfl)) ?_; refine wO_off (by exact rfl) (by exact rfl) ?_; refine wO_off (by exact rfl) (by exact rfl) ?_; refine wO_off (by exact rfl) (by exact rfl) ?_; refine wO_val (a_pickF (by exact rfl) (by exact rfl)) ?_; refine wO_val (a_mov (by exact rfl)) ?_; refine wO_off (by exact rfl) (by exact rfl) ?_
        refine wO_off (by exact rfl) (by exact rfl) ?_; refine wO_off (by exact rfl) (by exact rfl) ?_; refine wO_val (a_pickF (by exact rfl) (by exact rfl)) ?_; refine wO_val (a_mov (by exact rfl)) ?_; refine wO_nil ?_; refine kR_k (by simp only [keepE, dstE, geT, paramsE, cond_true, cond_false, Nat.beq]; exact rfl) ?_; refine kS_n ?_; refine wE_ret ?_
        exact endP_ret hr.log rfl rfl
    · refine FW.pu (in77F hp hf7 (.of (hr.wf.push _)) c1) ?_
      refine wO_val (a_mov (by exact rfl)) ?_; refine wO_off (by exact rfl) (by exact rfl) ?_; refine wO_off (by exact rfl) (by exact rfl) ?_; refine wO_off (by exact rfl) (by exact rfl) ?_; refine wO_val (a_pickF (by exact rfl) (by exact rfl)) ?_; refine wO_val (a_mov (by exact rfl)) ?_; refine wO_off (by exact rfl) (by exact rfl) ?_; refine wO_off (by exact rfl) (by exact rfl) ?_
      refine wO_off (by exact rfl) (by exact rfl) ?_; refine wO_val (a_pickF (by exact rfl) (by exact rfl)) ?_; refine wO_val (a_mov (by exact rfl)) ?_; refine wO_off (by exact rfl) (by exact rfl) ?_; refine wO_off (by exact rfl) (by exact rfl) ?_; refine wO_off (by exact rfl) (by exact rfl) ?_; refine wO_val (a_pickF (by exact rfl) (by exact rfl)) ?_; refine wO_val (a_mov (by exact rfl)) ?_
      refine wO_nil ?_; refine kR_k (by simp only [keepE, dstE, geT, paramsE, cond_true, cond_false, Nat.beq]; exact rfl) ?_; refine kS_n ?_; refine wE_ret ?_
      exact endP_ret hr.log rfl rfl
theorem same119 (hp : primAS T) (hf : T 119 = some f119) {h : Heap} (hr : Rdy h) (x y : Kd) {b s : Nat} {own : Bool} (hb : h.get b = some (.cells (kc y) own s)) (hlt : b < h.next) : Pu T 119 [ka x, .pointer (some ⟨b, 0, none⟩)] h (.bool (x.id == y.id)) := by
  refine .of hp hf hr rfl ?_
  refine wE_seq ?_; refine wE_region ?_; refine wO_val (a_box (by exact rfl) (by exact rfl)) ?_; refine wO_val (a_mov (by exact rfl)) ?_; refine wO_nil ?_; refine kR_k (by simp only [keepE, dstE, geT, paramsE, cond_true, cond_false, Nat.beq]; exact rfl) ?_; refine kS_n ?_; refine wE_seq ?_; refine wE_region ?_; refine wO_val (a_faddr (by exact rfl)) ?_
  refine wO_val (a_load (by exact rfl) (by (simp (disch := first | omega | (simp only [z1, z2]; omega)) only [z3, z4, z5, z6, z7, z1, z2, *]; exact rfl)) (by exact rfl)) ?_; refine wO_val (a_faddr (by exact rfl)) ?_
  refine wO_val (a_load (by exact rfl) (by (simp (disch := first | omega | (simp only [z1, z2]; omega)) only [z3, z4, z5, z6, z7, z1, z2, *]; exact rfl)) (by exact rfl)) ?_; refine wO_val (a_num (by exact rfl) (by exact rfl) (by exact m_eql)) ?_; refine wO_val (a_mov (by exact rfl)) ?_
  refine wO_nil ?_; refine kR_k (by simp only [keepE, dstE, geT, paramsE, cond_true, cond_false, Nat.beq]; exact rfl) ?_; refine kS_n ?_; refine wE_ret ?_
  exact endP_ret hr.log rfl rfl
end Go.A.Pk
end
section
set_option maxRecDepth 100000
namespace Go.A.Pk
variable {T : Nat → Option AFunc}
def idxK (p : Kd → Bool) (l : List Kd) : Int := match l.findIdx? p with
  | some i => i
  | none => -1
theorem idxK_at {p : Kd → Bool} {l : List Kd} {i : Nat} {k : Kd} (hi : l[i]? = some k) (hp : p k = true) (hj : ∀ (j : Nat) (k' : Kd), j < i → l[j]? = some k' → p k' = false) : idxK p l = i := by
  have : l.findIdx? p = some i := by
    rw [List.findIdx?_eq_some_iff_getElem]
    obtain ⟨h1, h2⟩ := List.getElem?_eq_some_iff.1 hi
    refine ⟨h1, by rw [h2]; exact hp, fun j hji => ?_⟩
    have := hj j l[j] hji (List.getElem?_eq_getElem (by omega))
    simp [this]
  simp [idxK, this]
theorem idxK_none {p : Kd → Bool} {l : List Kd} (hj : ∀ (j : Nat) (k' : Kd), l[j]? = some k' → p k' = false) : idxK p l = -1 := by
  have : l.findIdx? p = none := by
    rw [List.findIdx?_eq_none_iff]
    intro x hx
    obtain ⟨j, hj1, rfl⟩ := List.mem_iff_getElem.1 hx
    exact hj j _ (List.getElem?_eq_getElem hj1)
  simp [idxK, this]
theorem idxK_any (p : Kd → Bool) (l : List Kd) : decide (0 ≤ idxK p l) = l.any p := by
  unfold idxK
  cases h : l.findIdx? p with
  | none =>
    have : l.any p = false := by
      rw [List.findIdx?_eq_none_iff] at h
      rw [List.any_eq_false]
      intro x hx
      simp [h x hx]
    rw [this]; rfl
  | some i =>
    have : l.any p = true := by
      rw [List.findIdx?_eq_some_iff_getElem] at h
      obtain ⟨h1, h2, _⟩ := h
      rw [List.any_eq_true]
      exact ⟨_, List.getElem_mem h1, h2⟩
    rw [this]; simp
theorem index147 (hp : primAS T) (hf : T 147 = some f147) {h : Heap} (hr : Rdy h) {v : Value} {n : Nat} {l : List Kd} (hs : SliceOf h 5 v n (kcs l)) (hn : n < 1000000) {g : Nat} {cap : Array Value} {p : Kd → Bool}
    (hg : ∀ k ∈ l, Pu T g (ka k :: cap.toList) h (.bool (p k))) : Pu T 147 [v, .func (.func g) #[] cap] h (.int .i64 (idxK p l)) := by
  obtain ⟨ob, nx, lg⟩ := h
  obtain rfl : lg = [] := hr.log
  have hlen : l.length = n := by have := hs.len; rw [kcs_length] at this; omega
  obtain ⟨a, c, rfl⟩ := hs.form
  refine .of hp hf hr rfl ?_
  refine wE_seq ?_; refine wE_region ?_; refine wO_val (a_mov (by exact rfl)) ?_; refine wO_nil ?_; refine kR_k (by simp only [keepE, dstE, geT, paramsE, cond_true, cond_false, Nat.beq]; exact rfl) ?_; refine kS_n ?_; refine wE_seq ?_; refine wE_seq ?_; refine wE_region ?_; refine wO_val (a_mov (by exact rfl)) ?_; refine wO_val (a_len1 (by exact rfl)) ?_; refine wO_val (a_mov (by exact rfl)) ?_
  refine wO_nil ?_; refine kR_k (by simp only [keepE, dstE, geT, paramsE, cond_true, cond_false, Nat.beq]; exact rfl) ?_; refine kS_n ?_; refine wE_block ?_
  refine wE_loop (fun k e ds h' => ∃ i : Nat, i ≤ n ∧ k = n - i ∧ e = [(0, .slice a n c), (1, .func (.func g) #[] cap), (7, .int .i64 n), (8, .int .i64 i)] ∧ ds = [] ∧ h' = ⟨ob, nx, []⟩ ∧ ∀ (j : Nat) (k' : Kd), j < i → l[j]? = some k' → p k' = false)
    ⟨0, Nat.zero_le _, rfl, rfl, rfl, rfl, fun j k' hj => absurd hj (Nat.not_lt_zero j)⟩ ?_
  rintro k e ds h' ⟨i, hi, rfl, rfl, rfl, rfl, hpre⟩
  by_cases hlt : i < n
  · obtain ⟨x, hx⟩ : ∃ x, l[i]? = some x := ⟨l[i], List.getElem?_eq_getElem (by omega)⟩
    rcases hs.inv with ⟨_, _, h0, _⟩ | ⟨b, o, cap', hv, s, _⟩
    · omega
    · cases hv
      obtain ⟨vs, own, t, g1, g2⟩ := slice_elem s hx
      refine wE_seq ?_; refine wE_region ?_; refine wO_val (a_num (by exact rfl) (by exact rfl) (by exact m_geqT (by omega))) ?_; refine wO_nil ?_; refine kR_k (by simp only [keepE, dstE, geT, paramsE, cond_true, cond_false, Nat.beq]; exact rfl) ?_; refine kS_n ?_; refine wE_seq ?_; refine wE_true (by exact rfl) ?_; refine wE_skip ?_; refine kS_n ?_; refine wE_seq ?_; refine wE_block ?_; refine wE_seq ?_
      refine wE_region ?_; refine wO_val (a_mov (by exact rfl)) ?_; refine wO_val (a_mov (by exact rfl)) ?_; refine wO_nil ?_; refine kR_k (by simp only [keepE, dstE, geT, paramsE, cond_true, cond_false, Nat.beq]; exact rfl) ?_; refine kS_n ?_; refine wE_seq ?_; refine wE_region ?_; refine wO_val (a_mov (by exact rfl)) ?_; refine wO_val (a_mov (by exact rfl)) ?_; refine wO_val (a_mov (by exact rfl)) ?_
      refine wO_val (a_iaddrS (by exact rfl) (by exact rfl) hlt) ?_
      refine wO_val (a_loadN (by exact rfl) g1 g2 (by exact rfl)) ?_
      refine wO_call (a_call (by exact rfl) (by exact rfl) (by exact rfl) (by exact rfl)) ?_
      refine FW.pu (hg x (List.mem_of_getElem? hx)) ?_
      cases hpx : p x with
      | true =>
        refine wO_nil ?_; refine kR_k (by simp only [keepE, dstE, geT, paramsE, cond_true, cond_false, Nat.beq]; exact rfl) ?_; refine kS_n ?_; refine wE_true (by exact rfl) ?_; refine wE_seq ?_; refine wE_region ?_; refine wO_val (a_mov (by exact rfl)) ?_; refine wO_val (a_mov (by exact rfl)) ?_; refine wO_nil ?_
        refine kR_k (by simp only [keepE, dstE, geT, paramsE, cond_true, cond_false, Nat.beq]; exact rfl) ?_; refine kS_n ?_; refine wE_ret ?_; refine kB_r ?_; refine kS_r ?_; refine kS_r ?_; refine kB_r ?_; refine kS_r ?_
        refine endP_ret rfl rfl ?_
        show Value.int .i64 i = _
        rw [idxK_at hx hpx hpre]
      | false =>
        refine wO_nil ?_; refine kR_k (by simp only [keepE, dstE, geT, paramsE, cond_true, cond_false, Nat.beq]; exact rfl) ?_; refine kS_n ?_; refine wE_false (by exact rfl) ?_; refine wE_skip ?_; refine kB_n ?_; refine kS_n ?_; refine wE_region ?_; refine wO_val (a_num (by exact rfl) (by exact rfl) (by exact m_inc (by omega))) ?_; refine wO_val (a_mov (by exact rfl)) ?_; refine wO_nil ?_
        refine kR_k (by simp only [keepE, dstE, geT, paramsE, cond_true, cond_false, Nat.beq]; exact rfl) ?_; refine kS_n ?_
        refine ⟨n - (i + 1), by omega, i + 1, by omega, rfl, rfl, rfl, rfl, fun j k' hj hk' => ?_⟩
        by_cases hji : j < i
        · exact hpre j k' hji hk'
        · obtain rfl : j = i := by omega
          rw [hx] at hk'; cases hk'; exact hpx
  · obtain rfl : i = n := by omega
    refine wE_seq ?_; refine wE_region ?_; refine wO_val (a_num (by exact rfl) (by exact rfl) (by exact m_geqF (by omega))) ?_; refine wO_nil ?_; refine kR_k (by simp only [keepE, dstE, geT, paramsE, cond_true, cond_false, Nat.beq]; exact rfl) ?_; refine kS_n ?_; refine wE_seq ?_; refine wE_false (by exact rfl) ?_; refine wE_exit ?_; refine kS_e ?_; refine kS_e ?_; refine kB_e ?_; refine kS_n ?_
    refine wE_seq ?_; refine wE_region ?_; refine wO_val (a_mov (by exact rfl)) ?_; refine wO_nil ?_; refine kR_k (by simp only [keepE, dstE, geT, paramsE, cond_true, cond_false, Nat.beq]; exact rfl) ?_; refine kS_n ?_; refine wE_ret ?_
    refine endP_ret rfl rfl ?_
    show Value.int .i64 (-1) = _
    rw [idxK_none fun j k' hk' => hpre j k' (by have := (List.getElem?_eq_some_iff.1 hk').1; omega) hk']
theorem contains118 (hp : primAS T) (hf : T 118 = some f118) (hf7 : T 147 = some f147) {h : Heap} (hr : Rdy h) {v : Value} {n : Nat} {l : List Kd} (hs : SliceOf h 5 v n (kcs l)) (hn : n < 1000000) {g : Nat} {cap : Array Value} {p : Kd → Bool}
    (hg : ∀ k ∈ l, Pu T g (ka k :: cap.toList) h (.bool (p k))) : Pu T 118 [v, .func (.func g) #[] cap] h (.bool (l.any p)) := by
  obtain ⟨ob, nx, lg⟩ := h
  obtain rfl : lg = [] := hr.log
  refine .of hp hf hr rfl ?_
  refine wE_seq ?_; refine wE_region ?_; refine wO_val (a_mov (by exact rfl)) ?_; refine wO_nil ?_; refine kR_k (by simp only [keepE, dstE, geT, paramsE, cond_true, cond_false, Nat.beq]; exact rfl) ?_; refine kS_n ?_; refine wE_seq ?_; refine wE_region ?_; refine wO_val (a_mov (by exact rfl)) ?_; refine wO_val (a_mov (by exact rfl)) ?_
  refine wO_call (a_call (by exact rfl) (by exact rfl) (by exact rfl) (by exact rfl)) ?_
  refine FW.pu (index147 hp hf7 hr hs hn hg) ?_
  refine wO_val (a_num (by exact rfl) (by exact rfl) (by exact m_geq)) ?_; refine wO_val (a_mov (by exact rfl)) ?_; refine wO_nil ?_; refine kR_k (by simp only [keepE, dstE, geT, paramsE, cond_true, cond_false, Nat.beq]; exact rfl) ?_; refine kS_n ?_; refine wE_ret ?_
  refine endP_ret rfl rfl ?_
  show Value.bool (decide (0 ≤ idxK p l)) = _
  rw [idxK_any]
end Go.A.Pk
end
section
set_option maxRecDepth 100000
namespace Go.A.Pk
variable {T : Nat → Option AFunc}
def goodK (l : List Kd) (i : Nat) : Bool := match l[i]? with
  | some k => decide (Right k) && !(l.take i).any fun x => x.id == k.id
  | none => true
def good (kerf : Int) (l : List Kd) (i : Nat) : Bool := decide (0 ≤ kerf ∧ kerf ≤ 2) && (List.range i).all (goodK l)
theorem good_succ (kerf : Int) (l : List Kd) (i : Nat) : good kerf l (i + 1) = (good kerf l i && goodK l i) := by
  simp [good, List.range_succ, Bool.and_assoc]
def chk (kerf : Int) (l : List Kd) : Int := if 12 < l.length then 2 else if good kerf l l.length then 0 else 1
theorem form_at {h : Heap} {sz n c : Nat} {a : Option Addr} {cs : List Value} (s : SliceOf h sz (.slice a n c) n cs) : a = none ∨ ∃ b o, a = some ⟨b, o, none⟩ := by
  rcases s.inv with ⟨_, hv, _⟩ | ⟨b, o, _, hv, _⟩
  · cases hv; exact .inl rfl
  · cases hv; exact .inr ⟨b, o, rfl⟩
theorem cap_at {h : Heap} {sz n c : Nat} {a : Option Addr} {cs : List Value} (s : SliceOf h sz (.slice a n c) n cs) : n ≤ c := by
  rcases s.inv with ⟨_, hv, h0, _⟩ | ⟨b, o, _, hv, _, hc⟩
  · omega
  · cases hv; exact hc
structure FnsA (T : Nat → Option AFunc) : Prop where
  p : primAS T
  f77 : T 77 = some f77
  f117 : T 117 = some f117
  f119 : T 119 = some f119
  f147 : T 147 = some f147
  f118 : T 118 = some f118
  f66 : T 66 = some f66
set_option maxHeartbeats 4000000 in
theorem check66 (F : FnsA T) {h : Heap} (hr : Rdy h) {a : Option Addr} {n c : Nat} {l : List Kd} (hs : SliceOf h 5 (.slice a n c) n (kcs l)) (kerf : Int) (hn : n < 1000000) : Pu T 66 [.agg #[.slice a n c, .int .i64 kerf]] h (.int .i64 (chk kerf l)) := by
  have hlen : l.length = n := by have := hs.len; rw [kcs_length] at this; omega
  refine .of F.p F.f66 hr rfl ?_
  by_cases h12 : 12 < n
  · refine wE_seq ?_; refine wE_region ?_; refine wO_val (a_box (by exact rfl) (by exact rfl)) ?_; refine wO_val (a_mov (by exact rfl)) ?_; refine wO_nil ?_; refine kR_k (by simp only [keepE, dstE, geT, paramsE, cond_true, cond_false, Nat.beq]; exact rfl) ?_; refine kS_n ?_; refine wE_seq ?_; refine wE_seq ?_; refine wE_region ?_; refine wO_val (a_faddr (by exact rfl)) ?_
    refine wO_val (a_load (by exact rfl) (by (simp (disch := first | omega | (simp only [z1, z2]; omega)) only [z3, z4, z5, z6, z7, z1, z2, *]; exact rfl)) (by exact rfl)) ?_; refine wO_val (a_len1 (by exact rfl)) ?_
    refine wO_val (a_num (by exact rfl) (by exact rfl) (by exact m_geqT (by omega))) ?_; refine wO_nil ?_; refine kR_k (by simp only [keepE, dstE, geT, paramsE, cond_true, cond_false, Nat.beq]; exact rfl) ?_; refine kS_n ?_; refine wE_true (by exact rfl) ?_; refine wE_seq ?_; refine wE_region ?_; refine wO_val (a_mov (by exact rfl)) ?_; refine wO_nil ?_
    refine kR_k (by simp only [keepE, dstE, geT, paramsE, cond_true, cond_false, Nat.beq]; exact rfl) ?_; refine kS_n ?_; refine wE_ret ?_; refine kS_r ?_
    refine endP_ret hr.log rfl ?_
    show Value.int .i64 2 = _
    rw [chk, if_pos (by omega)]
  · have hchk : chk kerf l = if good kerf l n then 0 else 1 := by rw [chk, if_neg (by omega), hlen]
    rw [hchk]
    refine wE_seq ?_; refine wE_region ?_; refine wO_val (a_box (by exact rfl) (by exact rfl)) ?_; refine wO_val (a_mov (by exact rfl)) ?_; refine wO_nil ?_; refine kR_k (by simp only [keepE, dstE, geT, paramsE, cond_true, cond_false, Nat.beq]; exact rfl) ?_; refine kS_n ?_; refine wE_seq ?_; refine wE_seq ?_; refine wE_region ?_; refine wO_val (a_faddr (by exact rfl)) ?_
    refine wO_val (a_load (by exact rfl) (by (simp (disch := first | omega | (simp only [z1, z2]; omega)) only [z3, z4, z5, z6, z7, z1, z2, *]; exact rfl)) (by exact rfl)) ?_; refine wO_val (a_len1 (by exact rfl)) ?_
    refine wO_val (a_num (by exact rfl) (by exact rfl) (by exact m_geqF (by omega))) ?_; refine wO_nil ?_; refine kR_k (by simp only [keepE, dstE, geT, paramsE, cond_true, cond_false, Nat.beq]; exact rfl) ?_; refine kS_n ?_; refine wE_false (by exact rfl) ?_; refine wE_skip ?_; refine kS_n ?_; refine wE_seq ?_; refine wE_region ?_; refine wO_val (a_faddr (by exact rfl)) ?_
    refine wO_val (a_load (by exact rfl) (by (simp (disch := first | omega | (simp only [z1, z2]; omega)) only [z3, z4, z5, z6, z7, z1, z2, *]; exact rfl)) (by exact rfl)) ?_
    refine wO_call (a_call (by exact rfl) (by exact rfl) (by exact rfl) (by exact rfl)) ?_
    have c77 : Pu T 77 [.int .i64 kerf, .int .i64 0, .int .i64 2] { h.push (.cells [.slice a n c, .int .i64 kerf] true 1) with log := [] } (.bool (good kerf l 0)) := by
      have hg0 : good kerf l 0 = decide (0 ≤ kerf ∧ kerf ≤ 2) := by simp [good]
      rw [hg0]
      by_cases hk : 0 ≤ kerf ∧ kerf ≤ 2
      · rw [decide_eq_true hk]; exact in77T F.p F.f77 (.of (hr.wf.push _)) hk
      · rw [decide_eq_false hk]; exact in77F F.p F.f77 (.of (hr.wf.push _)) hk
    refine FW.pu c77 ?_
    refine wO_val (a_mov (by exact rfl)) ?_; refine wO_nil ?_; refine kR_k (by simp only [keepE, dstE, geT, paramsE, cond_true, cond_false, Nat.beq]; exact rfl) ?_; refine kS_n ?_; refine wE_seq ?_; refine wE_seq ?_; refine wE_region ?_; refine wO_val (a_faddr (by exact rfl)) ?_
    refine wO_val (a_load (by exact rfl) (by (simp (disch := first | omega | (simp only [z1, z2]; omega)) only [z3, z4, z5, z6, z7, z1, z2, *]; exact rfl)) (by exact rfl)) ?_; refine wO_val (a_len1 (by exact rfl)) ?_; refine wO_val (a_mov (by exact rfl)) ?_; refine wO_nil ?_
    refine kR_k (by simp only [keepE, dstE, geT, paramsE, cond_true, cond_false, Nat.beq]; exact rfl) ?_; refine kS_n ?_; refine wE_block ?_
    refine wE_loop (fun k e ds h' => ∃ i : Nat, i ≤ n ∧ k = n - i ∧ e = [(1, .pointer (some ⟨h.next, 0, none⟩)), (3, .bool (good kerf l i)), (14, .slice a n c), (15, .int .i64 n), (16, .int .i64 i)] ∧ ds = [] ∧ Ext (h.push (.cells [.slice a n c, .int .i64 kerf] true 1)) h')
      ⟨0, Nat.zero_le _, rfl, rfl, rfl, .refl _⟩ ?_
    rintro k e ds hi ⟨i, hin, rfl, rfl, rfl, hx⟩
    have hnx : h.next + 1 ≤ hi.next := hx.next
    have hP : hi.get h.next = some (.cells [.slice a n c, .int .i64 kerf] true 1) := (hx.old _ (Nat.lt_succ_self _)).trans (z3 _ _)
    by_cases hlt : i < n
    · obtain ⟨x, hxl⟩ : ∃ x, l[i]? = some x := ⟨l[i], List.getElem?_eq_getElem (by omega)⟩
      have hg1 : good kerf l (i + 1) = (good kerf l i && (decide (Right x) && !(l.take i).any fun y => y.id == x.id)) := by rw [good_succ, goodK, hxl]
      have hs' := hs.ext (((Ext.refl h).push _).trans hx)
      rcases hs'.inv with ⟨_, _, h0, _⟩ | ⟨b, o, cap', hv, s, hcap⟩
      · omega
      · cases hv
        obtain ⟨vs, own, t, g1, g2⟩ := slice_elem s hxl
        have fin : ∀ {h' : Heap} {v : Bool}, v = good kerf l (i + 1) → Ext (h.push (.cells [.slice (some ⟨b, o, none⟩) n c, .int .i64 kerf] true 1)) h' → ∃ k', k' < n - i ∧ ∃ i' : Nat, i' ≤ n ∧ k' = n - i' ∧
            [(1, Value.pointer (some ⟨h.next, 0, none⟩)), (3, .bool v), (14, .slice (some ⟨b, o, none⟩) n c), (15, .int .i64 n), (16, .int .i64 (i + 1 : Nat))] = [(1, .pointer (some ⟨h.next, 0, none⟩)), (3, .bool (good kerf l i')), (14, .slice (some ⟨b, o, none⟩) n c), (15, .int .i64 n), (16, .int .i64 i')] ∧
            ([] : Dfs) = [] ∧ Ext (h.push (.cells [.slice (some ⟨b, o, none⟩) n c, .int .i64 kerf] true 1)) h' := fun hv hx' => ⟨n - (i + 1), by omega, i + 1, by omega, rfl, by rw [hv], rfl, hx'⟩
        cases hgd : good kerf l i with
        | false =>
          refine wE_seq ?_; refine wE_region ?_; refine wO_val (a_num (by exact rfl) (by exact rfl) (by exact m_geqT (by omega))) ?_; refine wO_nil ?_; refine kR_k (by simp only [keepE, dstE, geT, paramsE, cond_true, cond_false, Nat.beq]; exact rfl) ?_; refine kS_n ?_; refine wE_seq ?_; refine wE_true (by exact rfl) ?_; refine wE_skip ?_; refine kS_n ?_; refine wE_seq ?_; refine wE_block ?_; refine wE_seq ?_
          refine wE_region ?_; refine wO_val (a_mov (by exact rfl)) ?_
          refine wO_val (a_iaddrS (by exact rfl) (by exact rfl) hlt) ?_
          refine wO_val (a_loadN (by exact rfl) g1 g2 (by exact rfl)) ?_
          refine wO_val a_new ?_; refine wO_val (a_mov (by exact rfl)) ?_; refine wO_val (a_store (by exact rfl) (by exact rfl) (by (simp (disch := first | omega | (simp only [z1, z2]; omega)) only [z3, z4, z5, z6, z7, z1, z2, *]; exact rfl)) (by exact rfl) (by exact rfl)) ?_; refine wO_nil ?_
          refine kR_k (by simp only [keepE, dstE, geT, paramsE, cond_true, cond_false, Nat.beq]; exact rfl) ?_; refine kS_n ?_; refine wE_region ?_; refine wO_val (a_mov (by exact rfl)) ?_; refine wO_val (a_mov (by exact rfl)) ?_; refine wO_off (by exact rfl) (by exact rfl) ?_; refine wO_off (by exact rfl) (by exact rfl) ?_; refine wO_val (a_pickF (by exact rfl) (by exact rfl)) ?_
          refine wO_val (a_mov (by exact rfl)) ?_; refine wO_off (by exact rfl) (by exact rfl) ?_; refine wO_off (by exact rfl) (by exact rfl) ?_; refine wO_off (by exact rfl) (by exact rfl) ?_; refine wO_off (by exact rfl) (by exact rfl) ?_; refine wO_off (by exact rfl) (by exact rfl) ?_; refine wO_off (by exact rfl) (by exact rfl) ?_; refine wO_off (by exact rfl) (by exact rfl) ?_
          refine wO_off (by exact rfl) (by exact rfl) ?_; refine wO_val (a_pickF (by exact rfl) (by exact rfl)) ?_; refine wO_val (a_mov (by exact rfl)) ?_; refine wO_nil ?_; refine kR_k (by simp only [keepE, dstE, geT, paramsE, cond_true, cond_false, Nat.beq]; exact rfl) ?_; refine kB_n ?_; refine kS_n ?_; refine wE_region ?_; refine wO_val (a_num (by exact rfl) (by exact rfl) (by exact m_inc (by omega))) ?_
          refine wO_val (a_mov (by exact rfl)) ?_; refine wO_nil ?_; refine kR_k (by simp only [keepE, dstE, geT, paramsE, cond_true, cond_false, Nat.beq]; exact rfl) ?_; refine kS_n ?_
          exact fin (by rw [hg1, hgd]; rfl) ((hx.push _).wr hnx (by omega))
        | true =>
          refine wE_seq ?_; refine wE_region ?_; refine wO_val (a_num (by exact rfl) (by exact rfl) (by exact m_geqT (by omega))) ?_; refine wO_nil ?_; refine kR_k (by simp only [keepE, dstE, geT, paramsE, cond_true, cond_false, Nat.beq]; exact rfl) ?_; refine kS_n ?_; refine wE_seq ?_; refine wE_true (by exact rfl) ?_; refine wE_skip ?_; refine kS_n ?_; refine wE_seq ?_; refine wE_block ?_; refine wE_seq ?_
          refine wE_region ?_; refine wO_val (a_mov (by exact rfl)) ?_
          refine wO_val (a_iaddrS (by exact rfl) (by exact rfl) hlt) ?_
          refine wO_val (a_loadN (by exact rfl) g1 g2 (by exact rfl)) ?_
          refine wO_val a_new ?_; refine wO_val (a_mov (by exact rfl)) ?_; refine wO_val (a_store (by exact rfl) (by exact rfl) (by (simp (disch := first | omega | (simp only [z1, z2]; omega)) only [z3, z4, z5, z6, z7, z1, z2, *]; exact rfl)) (by exact rfl) (by exact rfl)) ?_; refine wO_nil ?_
          refine kR_k (by simp only [keepE, dstE, geT, paramsE, cond_true, cond_false, Nat.beq]; exact rfl) ?_; refine kS_n ?_; refine wE_region ?_; refine wO_val (a_mov (by exact rfl)) ?_; refine wO_val (a_mov (by exact rfl)) ?_; refine wO_on (by exact rfl) ?_
          refine wO_val (a_loadN (by exact rfl) (by (simp (disch := first | omega | (simp only [z1, z2]; omega)) only [z3, z4, z5, z6, z7, z1, z2, *]; exact rfl)) (by exact rfl) (by exact rfl)) ?_; refine wO_on (by exact rfl) ?_
          refine wO_call (a_call (by exact rfl) (by exact rfl) (by exact rfl) (by exact rfl)) ?_
          have hx3 := (hx.push (.cells [.int .i64 0, .int .i64 0, .int .i64 0, .int .i64 0, .bool false] true 1)).wr (base := h.next) (o := .cells (kc x) true 1) hnx (by omega)
          have hw3 := hx3.wf (hr.wf.push _)
          by_cases R : Right x
          · have c117 := right117 F.p F.f117 F.f77 (.of hw3) x
            rw [decide_eq_true R] at c117
            refine FW.pu c117 ?_
            refine wO_val (a_pickT (by exact rfl) (by exact rfl)) ?_; refine wO_val (a_mov (by exact rfl)) ?_; refine wO_on (by exact rfl) ?_; refine wO_val (a_faddr (by exact rfl)) ?_; refine wO_on (by exact rfl) ?_
            refine wO_val (a_load (by exact rfl) (by (simp (disch := first | omega | (simp only [z1, z2]; omega)) only [z3, z4, z5, z6, z7, z1, z2, *]; exact rfl)) (by exact rfl)) ?_; refine wO_on (by exact rfl) ?_; refine wO_val (a_mov (by exact rfl)) ?_; refine wO_on (by exact rfl) ?_
            refine wO_val (a_mov (by exact rfl)) ?_; refine wO_on (by exact rfl) ?_
            refine wO_val (a_slice3 (by exact rfl) (by exact rfl) (by exact rfl) hin hcap hn (.inr ⟨_, _, rfl⟩)) ?_
            refine wO_on (by exact rfl) ?_; refine wO_val (a_mkFunc (by exact rfl) (by exact rfl)) ?_; refine wO_on (by exact rfl) ?_
            refine wO_call (a_call (by exact rfl) (by exact rfl) (by exact rfl) (by exact rfl)) ?_
            have hsl : SliceOf { (hi.push (.cells [.int .i64 0, .int .i64 0, .int .i64 0, .int .i64 0, .bool false] true 1)).wr h.next hi.next (.cells (kc x) true 1) with log := [] } 5 (.slice (some ⟨b, o, none⟩) i i) i (kcs (l.take i)) := by
              rw [← kcs_take]
              exact ((hs.ext (((Ext.refl h).push _).trans hx3)).take hin).log _
            have c118 := contains118 F.p F.f118 F.f147 (.of hw3) hsl (by omega) (cap := #[.pointer (some ⟨hi.next, 0, none⟩)]) (g := 119) (p := fun y => y.id == x.id) (fun k hk => same119 F.p F.f119 (.of hw3) k x (own := true) (s := 1) (Heap.get_wr_new (base := h.next) (z3 _ _)) (Nat.lt_succ_self _))
            cases hany : (l.take i).any (fun y => y.id == x.id) with
            | true =>
              rw [hany] at c118
              refine FW.pu c118 ?_
              refine wO_on (by exact rfl) ?_; refine wO_val (a_not (by exact rfl)) ?_; refine wO_val (a_pickT (by exact rfl) (by exact rfl)) ?_; refine wO_val (a_mov (by exact rfl)) ?_; refine wO_nil ?_; refine kR_k (by simp only [keepE, dstE, geT, paramsE, cond_true, cond_false, Nat.beq]; exact rfl) ?_; refine kB_n ?_; refine kS_n ?_; refine wE_region ?_
              refine wO_val (a_num (by exact rfl) (by exact rfl) (by exact m_inc (by omega))) ?_; refine wO_val (a_mov (by exact rfl)) ?_; refine wO_nil ?_; refine kR_k (by simp only [keepE, dstE, geT, paramsE, cond_true, cond_false, Nat.beq]; exact rfl) ?_; refine kS_n ?_
              exact fin (by rw [hg1, hgd, hany, decide_eq_true R]; rfl) hx3
            | false =>
              rw [hany] at c118
              refine FW.pu c118 ?_
              refine wO_on (by exact rfl) ?_; refine wO_val (a_not (by exact rfl)) ?_; refine wO_val (a_pickT (by exact rfl) (by exact rfl)) ?_; refine wO_val (a_mov (by exact rfl)) ?_; refine wO_nil ?_; refine kR_k (by simp only [keepE, dstE, geT, paramsE, cond_true, cond_false, Nat.beq]; exact rfl) ?_; refine kB_n ?_; refine kS_n ?_; refine wE_region ?_
              refine wO_val (a_num (by exact rfl) (by exact rfl) (by exact m_inc (by omega))) ?_; refine wO_val (a_mov (by exact rfl)) ?_; refine wO_nil ?_; refine kR_k (by simp only [keepE, dstE, geT, paramsE, cond_true, cond_false, Nat.beq]; exact rfl) ?_; refine kS_n ?_
              exact fin (by rw [hg1, hgd, hany, decide_eq_true R]; rfl) hx3
          · have c117 := right117 F.p F.f117 F.f77 (.of hw3) x
            rw [decide_eq_false R] at c117
            refine FW.pu c117 ?_
            refine wO_val (a_pickT (by exact rfl) (by exact rfl)) ?_; refine wO_val (a_mov (by exact rfl)) ?_; refine wO_off (by exact rfl) (by exact rfl) ?_; refine wO_off (by exact rfl) (by exact rfl) ?_; refine wO_off (by exact rfl) (by exact rfl) ?_; refine wO_off (by exact rfl) (by exact rfl) ?_; refine wO_off (by exact rfl) (by exact rfl) ?_; refine wO_off (by exact rfl) (by exact rfl) ?_
            refine wO_off (by exact rfl) (by exact rfl) ?_; refine wO_off (by exact rfl) (by exact rfl) ?_; refine wO_val (a_pickF (by exact rfl) (by exact rfl)) ?_; refine wO_val (a_mov (by exact rfl)) ?_; refine wO_nil ?_; refine kR_k (by simp only [keepE, dstE, geT, paramsE, cond_true, cond_false, Nat.beq]; exact rfl) ?_; refine kB_n ?_; refine kS_n ?_; refine wE_region ?_
            refine wO_val (a_num (by exact rfl) (by exact rfl) (by exact m_inc (by omega))) ?_; refine wO_val (a_mov (by exact rfl)) ?_; refine wO_nil ?_; refine kR_k (by simp only [keepE, dstE, geT, paramsE, cond_true, cond_false, Nat.beq]; exact rfl) ?_; refine kS_n ?_
            exact fin (by rw [hg1, hgd, decide_eq_false R]; rfl) hx3
    · obtain rfl : i = n := by omega
      cases hgd : good kerf l i with
      | true =>
        refine wE_seq ?_; refine wE_region ?_; refine wO_val (a_num (by exact rfl) (by exact rfl) (by exact m_geqF (by omega))) ?_; refine wO_nil ?_; refine kR_k (by simp only [keepE, dstE, geT, paramsE, cond_true, cond_false, Nat.beq]; exact rfl) ?_; refine kS_n ?_; refine wE_seq ?_; refine wE_false (by exact rfl) ?_; refine wE_exit ?_; refine kS_e ?_; refine kS_e ?_; refine kB_e ?_; refine kS_n ?_
        refine wE_seq ?_; refine wE_seq ?_; refine wE_region ?_; refine wO_val (a_mov (by exact rfl)) ?_; refine wO_val (a_not (by exact rfl)) ?_; refine wO_nil ?_; refine kR_k (by simp only [keepE, dstE, geT, paramsE, cond_true, cond_false, Nat.beq]; exact rfl) ?_; refine kS_n ?_; refine wE_false (by exact rfl) ?_; refine wE_skip ?_; refine kS_n ?_; refine wE_seq ?_; refine wE_region ?_
        refine wO_val (a_mov (by exact rfl)) ?_; refine wO_nil ?_; refine kR_k (by simp only [keepE, dstE, geT, paramsE, cond_true, cond_false, Nat.beq]; exact rfl) ?_; refine kS_n ?_; refine wE_ret ?_
        refine endP_ret ?_ rfl rfl
        exact hx.log.trans hr.log
      | false =>
        refine wE_seq ?_; refine wE_region ?_; refine wO_val (a_num (by exact rfl) (by exact rfl) (by exact m_geqF (by omega))) ?_; refine wO_nil ?_; refine kR_k (by simp only [keepE, dstE, geT, paramsE, cond_true, cond_false, Nat.beq]; exact rfl) ?_; refine kS_n ?_; refine wE_seq ?_; refine wE_false (by exact rfl) ?_; refine wE_exit ?_; refine kS_e ?_; refine kS_e ?_; refine kB_e ?_; refine kS_n ?_
        refine wE_seq ?_; refine wE_seq ?_; refine wE_region ?_; refine wO_val (a_mov (by exact rfl)) ?_; refine wO_val (a_not (by exact rfl)) ?_; refine wO_nil ?_; refine kR_k (by simp only [keepE, dstE, geT, paramsE, cond_true, cond_false, Nat.beq]; exact rfl) ?_; refine kS_n ?_; refine wE_true (by exact rfl) ?_; refine wE_seq ?_; refine wE_region ?_; refine wO_val (a_mov (by exact rfl)) ?_
        refine wO_nil ?_; refine kR_k (by simp only [keepE, dstE, geT, paramsE, cond_true, cond_false, Nat.beq]; exact rfl) ?_; refine kS_n ?_; refine wE_ret ?_; refine kS_r ?_
        refine endP_ret ?_ rfl rfl
        exact hx.log.trans hr.log
end Go.A.Pk
end
section
set_option maxRecDepth 100000
namespace Go.A.Pk
variable {T : Nat → Option AFunc}
theorem good_false {kerf : Int} {l : List Kd} {i n : Nat} (hi : i < n) (hg : goodK l i = false) : good kerf l n = false := by
  unfold good
  rw [Bool.and_eq_false_iff]
  right
  rw [List.all_eq_false]
  exact ⟨i, by simpa using hi, by simp [hg]⟩
theorem elem_get {vs : List Value} {q : Nat} {k : Kd} (hk : ltake 5 (ldrop q vs) = kc k) (i : Nat) (hi : i < 5) : lget vs (q + i) = lget (kc k) i := by
  rw [← hk, lget_eq, lget_eq, ltake_eq, ldrop_eq, List.getElem?_take_of_lt hi, List.getElem?_drop]
structure FnsB (T : Nat → Option AFunc) : Prop where
  p : primAS T
  f80 : T 80 = some f80
  f67 : T 67 = some f67
set_option maxHeartbeats 4000000 in
theorem check67 (F : FnsB T) {h : Heap} (hr : Rdy h) {a : Option Addr} {n c : Nat} {l : List Kd} (hs : SliceOf h 5 (.slice a n c) n (kcs l)) (kerf : Int) (hn : n < 1000000) : Pu T 67 [.agg #[.slice a n c, .int .i64 kerf]] h (.int .i64 (chk kerf l)) := by
  have hlen : l.length = n := by have := hs.len; rw [kcs_length] at this; omega
  refine .of F.p F.f67 hr rfl ?_
  by_cases h12 : 12 < n
  · refine wE_seq ?_; refine wE_region ?_; refine wO_val (a_box (by exact rfl) (by exact rfl)) ?_; refine wO_val (a_mov (by exact rfl)) ?_; refine wO_nil ?_; refine kR_k (by simp only [keepE, dstE, geT, paramsE, cond_true, cond_false, Nat.beq]; exact rfl) ?_; refine kS_n ?_; refine wE_seq ?_; refine wE_seq ?_; refine wE_region ?_; refine wO_val (a_faddr (by exact rfl)) ?_
    refine wO_val (a_load (by exact rfl) (by (simp (disch := first | omega | (simp only [z1, z2]; omega)) only [z3, z4, z5, z6, z7, z1, z2, *]; exact rfl)) (by exact rfl)) ?_; refine wO_val (a_len1 (by exact rfl)) ?_
    refine wO_val (a_num (by exact rfl) (by exact rfl) (by exact m_geqT (by omega))) ?_; refine wO_nil ?_; refine kR_k (by simp only [keepE, dstE, geT, paramsE, cond_true, cond_false, Nat.beq]; exact rfl) ?_; refine kS_n ?_; refine wE_true (by exact rfl) ?_; refine wE_seq ?_; refine wE_region ?_; refine wO_val (a_mov (by exact rfl)) ?_; refine wO_nil ?_
    refine kR_k (by simp only [keepE, dstE, geT, paramsE, cond_true, cond_false, Nat.beq]; exact rfl) ?_; refine kS_n ?_; refine wE_ret ?_; refine kS_r ?_
    refine endP_ret hr.log rfl ?_
    show Value.int .i64 2 = _
    rw [chk, if_pos (by omega)]
  · have hchk : chk kerf l = if good kerf l n then 0 else 1 := by rw [chk, if_neg (by omega), hlen]
    rw [hchk]
    have bad : good kerf l n = false → ∀ {h' : Heap} {e : Env}, h'.log = h.log → resultsA h' e [(2, none)] = some [.int .i64 1] → endP [(2, none)] (.int .i64 (if good kerf l n then 0 else 1)) .ret e [] h' := fun hg h' e hl hres => by
      rw [hg]
      exact endP_ret (hl.trans hr.log) hres rfl
    refine wE_seq ?_; refine wE_region ?_; refine wO_val (a_box (by exact rfl) (by exact rfl)) ?_; refine wO_val (a_mov (by exact rfl)) ?_; refine wO_nil ?_; refine kR_k (by simp only [keepE, dstE, geT, paramsE, cond_true, cond_false, Nat.beq]; exact rfl) ?_; refine kS_n ?_; refine wE_seq ?_; refine wE_seq ?_; refine wE_region ?_; refine wO_val (a_faddr (by exact rfl)) ?_
    refine wO_val (a_load (by exact rfl) (by (simp (disch := first | omega | (simp only [z1, z2]; omega)) only [z3, z4, z5, z6, z7, z1, z2, *]; exact rfl)) (by exact rfl)) ?_; refine wO_val (a_len1 (by exact rfl)) ?_
    refine wO_val (a_num (by exact rfl) (by exact rfl) (by exact m_geqF (by omega))) ?_; refine wO_nil ?_; refine kR_k (by simp only [keepE, dstE, geT, paramsE, cond_true, cond_false, Nat.beq]; exact rfl) ?_; refine kS_n ?_; refine wE_false (by exact rfl) ?_; refine wE_skip ?_; refine kS_n ?_; refine wE_seq ?_; refine wE_seq ?_; refine wE_region ?_; refine wO_val (a_mov (by exact rfl)) ?_
    refine wO_nil ?_; refine kR_k (by simp only [keepE, dstE, geT, paramsE, cond_true, cond_false, Nat.beq]; exact rfl) ?_; refine kS_n ?_; refine wE_block ?_
    refine wE_loop (fun k e ds h' => ∃ i : Nat, i ≤ n ∧ k = n - i ∧ e = [(1, .pointer (some ⟨h.next, 0, none⟩)), (3, .int .i64 i)] ∧ ds = [] ∧ Ext (h.push (.cells [.slice a n c, .int .i64 kerf] true 1)) h' ∧ ∀ j, j < i → goodK l j = true)
      ⟨0, Nat.zero_le _, rfl, rfl, rfl, .refl _, fun j hj => absurd hj (Nat.not_lt_zero j)⟩ ?_
    rintro k e ds hi ⟨i, hin, rfl, rfl, rfl, hx, hpre⟩
    have hnx : h.next + 1 ≤ hi.next := hx.next
    have hP : hi.get h.next = some (.cells [.slice a n c, .int .i64 kerf] true 1) := (hx.old _ (Nat.lt_succ_self _)).trans (z3 _ _)
    by_cases hlt : i < n
    · obtain ⟨x, hxl⟩ : ∃ x, l[i]? = some x := ⟨l[i], List.getElem?_eq_getElem (by omega)⟩
      have hg1 : goodK l i = (decide (Right x) && !(l.take i).any fun y => y.id == x.id) := by rw [goodK, hxl]
      have hs' := hs.ext (((Ext.refl h).push _).trans hx)
      rcases hs'.inv with ⟨_, _, h0, _⟩ | ⟨b, o, cap', hv, s, hcap⟩
      · omega
      · cases hv
        obtain ⟨vs, own, t, g1, g2⟩ := slice_elem s hxl
        refine wE_seq ?_; refine wE_seq ?_; refine wE_region ?_; refine wO_val (a_mov (by exact rfl)) ?_; refine wO_val (a_faddr (by exact rfl)) ?_; refine wO_val (a_load (by exact rfl) (by assumption) (by exact rfl)) ?_; refine wO_val (a_len1 (by exact rfl)) ?_; refine wO_val (a_num (by exact rfl) (by exact rfl) (by exact m_geqT (by omega))) ?_; refine wO_nil ?_
        refine kR_k (by simp only [keepE, dstE, geT, paramsE, cond_true, cond_false, Nat.beq]; exact rfl) ?_; refine kS_n ?_; refine wE_true (by exact rfl) ?_; refine wE_skip ?_; refine kS_n ?_; refine wE_seq ?_; refine wE_block ?_; refine wE_seq ?_; refine wE_region ?_; refine wO_val (a_faddr (by exact rfl)) ?_; refine wO_val (a_load (by exact rfl) (by assumption) (by exact rfl)) ?_
        refine wO_val (a_mov (by exact rfl)) ?_
        refine wO_val (a_iaddrS (by exact rfl) (by exact rfl) hlt) ?_
        refine wO_val (a_loadN (by exact rfl) g1 g2 (by exact rfl)) ?_
        refine wO_val a_new ?_; refine wO_val (a_store (by exact rfl) (by exact rfl) (by (simp (disch := first | omega | (simp only [z1, z2]; omega)) only [z3, z4, z5, z6, z7, z1, z2, *]; exact rfl)) (by exact rfl) (by exact rfl)) ?_; refine wO_nil ?_
        refine kR_k (by simp only [keepE, dstE, geT, paramsE, cond_true, cond_false, Nat.beq]; exact rfl) ?_; refine kS_n ?_; refine wE_seq ?_; refine wE_seq ?_; refine wE_region ?_; refine wO_val (a_faddr (by exact rfl)) ?_
        refine wO_val (a_load (by exact rfl) (by (simp (disch := first | omega | (simp only [z1, z2]; omega)) only [z3, z4, z5, z6, z7, z1, z2, *]; exact rfl)) (by exact rfl)) ?_
        have hx3 := (hx.push (.cells [.int .i64 0, .int .i64 0, .int .i64 0, .int .i64 0, .bool false] true 1)).wr (base := h.next) (o := .cells (kc x) true 1) hnx (by omega)
        have hw3 := hx3.wf (hr.wf.push _)
        by_cases R : Right x
        · have R' := R
          unfold Right at R'
          refine wO_call (a_call (by exact rfl) (by exact rfl) (by exact rfl) (by exact rfl)) ?_
          refine FW.pu (in80T F.p F.f80 (.of hw3) (by omega)) ?_
          refine wO_val (a_not (by exact rfl)) ?_; refine wO_val (a_mov (by exact rfl)) ?_; refine wO_on (by exact rfl) ?_; refine wO_val (a_faddr (by exact rfl)) ?_; refine wO_on (by exact rfl) ?_
          refine wO_val (a_load (by exact rfl) (by (simp (disch := first | omega | (simp only [z1, z2]; omega)) only [z3, z4, z5, z6, z7, z1, z2, *]; exact rfl)) (by exact rfl)) ?_; refine wO_on (by exact rfl) ?_
          refine wO_call (a_call (by exact rfl) (by exact rfl) (by exact rfl) (by exact rfl)) ?_
          refine FW.pu (in80T F.p F.f80 (.of hw3) (by omega)) ?_
          refine wO_on (by exact rfl) ?_; refine wO_val (a_not (by exact rfl)) ?_; refine wO_val (a_pickF (by exact rfl) (by exact rfl)) ?_; refine wO_val (a_mov (by exact rfl)) ?_; refine wO_on (by exact rfl) ?_; refine wO_val (a_faddr (by exact rfl)) ?_; refine wO_on (by exact rfl) ?_
          refine wO_val (a_load (by exact rfl) (by (simp (disch := first | omega | (simp only [z1, z2]; omega)) only [z3, z4, z5, z6, z7, z1, z2, *]; exact rfl)) (by exact rfl)) ?_; refine wO_on (by exact rfl) ?_
          refine wO_call (a_call (by exact rfl) (by exact rfl) (by exact rfl) (by exact rfl)) ?_
          refine FW.pu (in80T F.p F.f80 (.of hw3) (by omega)) ?_
          refine wO_on (by exact rfl) ?_; refine wO_val (a_not (by exact rfl)) ?_; refine wO_val (a_pickF (by exact rfl) (by exact rfl)) ?_; refine wO_val (a_mov (by exact rfl)) ?_; refine wO_on (by exact rfl) ?_; refine wO_val (a_faddr (by exact rfl)) ?_; refine wO_on (by exact rfl) ?_
          refine wO_val (a_load (by exact rfl) (by (simp (disch := first | omega | (simp only [z1, z2]; omega)) only [z3, z4, z5, z6, z7, z1, z2, *]; exact rfl)) (by exact rfl)) ?_; refine wO_on (by exact rfl) ?_
          refine wO_call (a_call (by exact rfl) (by exact rfl) (by exact rfl) (by exact rfl)) ?_
          refine FW.pu (in80T F.p F.f80 (.of hw3) (by omega)) ?_
          refine wO_on (by exact rfl) ?_; refine wO_val (a_not (by exact rfl)) ?_; refine wO_val (a_pickF (by exact rfl) (by exact rfl)) ?_; refine wO_nil ?_; refine kR_k (by simp only [keepE, dstE, geT, paramsE, cond_true, cond_false, Nat.beq]; exact rfl) ?_; refine kS_n ?_; refine wE_false (by exact rfl) ?_; refine wE_skip ?_; refine kS_n ?_; refine wE_seq ?_; refine wE_region ?_
          refine wO_val (a_mov (by exact rfl)) ?_; refine wO_nil ?_; refine kR_k (by simp only [keepE, dstE, geT, paramsE, cond_true, cond_false, Nat.beq]; exact rfl) ?_; refine kS_n ?_; refine wE_block ?_
          refine wE_loop (fun k e ds h' => ∃ j : Nat, j ≤ i ∧ k = i - j ∧ e = [(1, .pointer (some ⟨h.next, 0, none⟩)), (3, .int .i64 i), (4, .pointer (some ⟨hi.next, 0, none⟩)), (5, .int .i64 j)] ∧ ds = [] ∧
              h' = (hi.push (.cells [.int .i64 0, .int .i64 0, .int .i64 0, .int .i64 0, .bool false] true 1)).wr h.next hi.next (.cells (kc x) true 1) ∧ ∀ (j' : Nat) (y : Kd), j' < j → l[j']? = some y → (y.id == x.id) = false)
            ⟨0, Nat.zero_le _, rfl, rfl, rfl, rfl, fun j y hj => absurd hj (Nat.not_lt_zero j)⟩ ?_
          rintro k e ds h4 ⟨j, hji, rfl, rfl, rfl, rfl, hne⟩
          by_cases hjlt : j < i
          · obtain ⟨y, hyl⟩ : ∃ y, l[j]? = some y := ⟨l[j], List.getElem?_eq_getElem (by omega)⟩
            obtain ⟨vs', own', t', g3, g4⟩ := slice_elem (s.ext ((Ext.refl hi).push (.cells [.int .i64 0, .int .i64 0, .int .i64 0, .int .i64 0, .bool false] true 1) |>.wr (base := h.next) (x := hi.next) (o := .cells (kc x) true 1) (Nat.le_refl _) (by omega))) hyl
            have e0 : lget vs' (o + j * 5 + 0) = some (.int .i64 y.id) := elem_get g4 0 (by omega)
            refine wE_seq ?_; refine wE_seq ?_; refine wE_region ?_; refine wO_val (a_mov (by exact rfl)) ?_; refine wO_val (a_mov (by exact rfl)) ?_; refine wO_val (a_num (by exact rfl) (by exact rfl) (by exact m_geqT (by omega))) ?_; refine wO_nil ?_; refine kR_k (by simp only [keepE, dstE, geT, paramsE, cond_true, cond_false, Nat.beq]; exact rfl) ?_; refine kS_n ?_; refine wE_true (by exact rfl) ?_
            refine wE_skip ?_; refine kS_n ?_; refine wE_seq ?_; refine wE_block ?_; refine wE_seq ?_; refine wE_draw ?_; refine wD_quiet rfl rfl rfl (by exact rfl) (by exact rfl) (by exact rfl) (a_faddr (by exact rfl)) ?_
            refine wD_quiet rfl rfl rfl (by exact rfl) (by exact rfl) (by exact rfl) (a_load (by exact rfl) (by (simp (disch := first | omega | (simp only [z1, z2]; omega)) only [z3, z4, z5, z6, z7, z1, z2, *]; exact rfl)) (by exact rfl)) ?_
            refine wD_quiet rfl rfl rfl (by exact rfl) (by exact rfl) (by exact rfl) (a_mov (by exact rfl)) ?_
            refine wD_quiet rfl rfl rfl (by exact rfl) (by exact rfl) (by exact rfl) (a_iaddrS (by exact rfl) (by exact rfl) (by omega)) ?_
            refine wD_quiet rfl rfl rfl (by exact rfl) (by exact rfl) (by exact rfl) (a_faddr (by exact rfl)) ?_
            refine wD_quiet rfl rfl rfl (by exact rfl) (by exact rfl) (by exact rfl) (a_load (by exact rfl) g3 e0) ?_
            cases hyx : y.id == x.id with
            | true =>
              have hyx' : y.id = x.id := by simpa using hyx
              refine wD_quiet rfl rfl rfl (by exact rfl) (by exact rfl) (by exact rfl) (a_faddr (by exact rfl)) ?_
              refine wD_quiet rfl rfl rfl (by exact rfl) (by exact rfl) (by exact rfl) (a_load (by exact rfl) (by (simp (disch := first | omega | (simp only [z1, z2]; omega)) only [z3, z4, z5, z6, z7, z1, z2, *]; exact rfl)) (by exact rfl)) ?_
              refine wD_quiet rfl rfl rfl (by exact rfl) (by exact rfl) (by exact rfl) (a_num (by exact rfl) (by exact rfl) (by exact m_eqlT (by omega))) ?_; refine wD_nil ?_; refine kR_k (by simp only [keepE, dstE, geT, paramsE, cond_true, cond_false, Nat.beq]; exact rfl) ?_; refine kS_n ?_; refine wE_true (by exact rfl) ?_; refine wE_seq ?_; refine wE_region ?_; refine wO_val (a_mov (by exact rfl)) ?_
              refine wO_nil ?_; refine kR_k (by simp only [keepE, dstE, geT, paramsE, cond_true, cond_false, Nat.beq]; exact rfl) ?_; refine kS_n ?_; refine wE_ret ?_; refine kB_r ?_; refine kS_r ?_; refine kS_r ?_; refine kB_r ?_; refine kB_r ?_; refine kS_r ?_; refine kS_r ?_; refine kB_r ?_; refine kS_r ?_
              refine bad (good_false hlt ?_) hx3.log rfl
              rw [hg1]
              have : (l.take i).any (fun y => y.id == x.id) = true := by
                rw [List.any_eq_true]
                exact ⟨y, List.mem_of_getElem? (i := j) (by rw [List.getElem?_take_of_lt hjlt]; exact hyl), hyx⟩
              rw [this]; simp
            | false =>
              have hyx' : y.id ≠ x.id := by simpa using hyx
              refine wD_quiet rfl rfl rfl (by exact rfl) (by exact rfl) (by exact rfl) (a_faddr (by exact rfl)) ?_
              refine wD_quiet rfl rfl rfl (by exact rfl) (by exact rfl) (by exact rfl) (a_load (by exact rfl) (by (simp (disch := first | omega | (simp only [z1, z2]; omega)) only [z3, z4, z5, z6, z7, z1, z2, *]; exact rfl)) (by exact rfl)) ?_
              refine wD_quiet rfl rfl rfl (by exact rfl) (by exact rfl) (by exact rfl) (a_num (by exact rfl) (by exact rfl) (by exact m_eqlF (by omega))) ?_; refine wD_nil ?_; refine kR_k (by simp only [keepE, dstE, geT, paramsE, cond_true, cond_false, Nat.beq]; exact rfl) ?_; refine kS_n ?_; refine wE_false (by exact rfl) ?_; refine wE_skip ?_; refine kB_n ?_; refine kS_n ?_; refine wE_region ?_
              refine wO_val (a_mov (by exact rfl)) ?_; refine wO_val (a_num (by exact rfl) (by exact rfl) (by exact m_inc (by omega))) ?_; refine wO_val (a_mov (by exact rfl)) ?_; refine wO_nil ?_; refine kR_k (by simp only [keepE, dstE, geT, paramsE, cond_true, cond_false, Nat.beq]; exact rfl) ?_; refine kS_n ?_
              refine ⟨i - (j + 1), by omega, j + 1, by omega, rfl, rfl, rfl, rfl, fun j' z hj' hz => ?_⟩
              by_cases hj2 : j' < j
              · exact hne j' z hj2 hz
              · obtain rfl : j' = j := by omega
                rw [hyl] at hz; cases hz; exact hyx
          · obtain rfl : j = i := by omega
            refine wE_seq ?_; refine wE_seq ?_; refine wE_region ?_; refine wO_val (a_mov (by exact rfl)) ?_; refine wO_val (a_mov (by exact rfl)) ?_; refine wO_val (a_num (by exact rfl) (by exact rfl) (by exact m_geqF (by omega))) ?_; refine wO_nil ?_; refine kR_k (by simp only [keepE, dstE, geT, paramsE, cond_true, cond_false, Nat.beq]; exact rfl) ?_; refine kS_n ?_; refine wE_false (by exact rfl) ?_
            refine wE_exit ?_; refine kS_e ?_; refine kS_e ?_; refine kB_e ?_; refine kB_n ?_; refine kS_n ?_; refine wE_region ?_; refine wO_val (a_mov (by exact rfl)) ?_; refine wO_val (a_num (by exact rfl) (by exact rfl) (by exact m_inc (by omega))) ?_; refine wO_val (a_mov (by exact rfl)) ?_; refine wO_nil ?_
            refine kR_k (by simp only [keepE, dstE, geT, paramsE, cond_true, cond_false, Nat.beq]; exact rfl) ?_; refine kS_n ?_
            refine ⟨n - (j + 1), by omega, j + 1, by omega, rfl, rfl, rfl, hx3, fun j' hj' => ?_⟩
            by_cases hj2 : j' < j
            · exact hpre j' hj2
            · obtain rfl : j' = j := by omega
              rw [hg1, decide_eq_true R]
              have : (l.take j').any (fun y => y.id == x.id) = false := by
                rw [List.any_eq_false]
                intro y hy
                obtain ⟨q, hq1, hq2⟩ := List.mem_iff_getElem.1 hy
                have hq3 : q < j' := by simp at hq1; omega
                have := hne q y hq3 (by rw [← hq2, List.getElem_take, List.getElem?_eq_getElem])
                simp [this]
              rw [this]; rfl
        · have hgf : good kerf l n = false := good_false hlt (by rw [hg1, decide_eq_false R]; rfl)
          unfold Right at R
          refine wO_call (a_call (by exact rfl) (by exact rfl) (by exact rfl) (by exact rfl)) ?_
          by_cases c1 : 1 ≤ x.id ∧ x.id ≤ 1000000
          · refine FW.pu (in80T F.p F.f80 (.of hw3) c1) ?_
            refine wO_val (a_not (by exact rfl)) ?_; refine wO_val (a_mov (by exact rfl)) ?_; refine wO_on (by exact rfl) ?_; refine wO_val (a_faddr (by exact rfl)) ?_; refine wO_on (by exact rfl) ?_
            refine wO_val (a_load (by exact rfl) (by (simp (disch := first | omega | (simp only [z1, z2]; omega)) only [z3, z4, z5, z6, z7, z1, z2, *]; exact rfl)) (by exact rfl)) ?_; refine wO_on (by exact rfl) ?_
            refine wO_call (a_call (by exact rfl) (by exact rfl) (by exact rfl) (by exact rfl)) ?_
            by_cases c2 : 1 ≤ x.w ∧ x.w ≤ 16
            · refine FW.pu (in80T F.p F.f80 (.of hw3) c2) ?_
              refine wO_on (by exact rfl) ?_; refine wO_val (a_not (by exact rfl)) ?_; refine wO_val (a_pickF (by exact rfl) (by exact rfl)) ?_; refine wO_val (a_mov (by exact rfl)) ?_; refine wO_on (by exact rfl) ?_; refine wO_val (a_faddr (by exact rfl)) ?_; refine wO_on (by exact rfl) ?_
              refine wO_val (a_load (by exact rfl) (by (simp (disch := first | omega | (simp only [z1, z2]; omega)) only [z3, z4, z5, z6, z7, z1, z2, *]; exact rfl)) (by exact rfl)) ?_; refine wO_on (by exact rfl) ?_
              refine wO_call (a_call (by exact rfl) (by exact rfl) (by exact rfl) (by exact rfl)) ?_
              by_cases c3 : 1 ≤ x.h ∧ x.h ≤ 16
              · refine FW.pu (in80T F.p F.f80 (.of hw3) c3) ?_
                refine wO_on (by exact rfl) ?_; refine wO_val (a_not (by exact rfl)) ?_; refine wO_val (a_pickF (by exact rfl) (by exact rfl)) ?_; refine wO_val (a_mov (by exact rfl)) ?_; refine wO_on (by exact rfl) ?_; refine wO_val (a_faddr (by exact rfl)) ?_; refine wO_on (by exact rfl) ?_
                refine wO_val (a_load (by exact rfl) (by (simp (disch := first | omega | (simp only [z1, z2]; omega)) only [z3, z4, z5, z6, z7, z1, z2, *]; exact rfl)) (by exact rfl)) ?_; refine wO_on (by exact rfl) ?_
                refine wO_call (a_call (by exact rfl) (by exact rfl) (by exact rfl) (by exact rfl)) ?_
                refine FW.pu (in80F F.p F.f80 (.of hw3) (by omega)) ?_
                refine wO_on (by exact rfl) ?_; refine wO_val (a_not (by exact rfl)) ?_; refine wO_val (a_pickF (by exact rfl) (by exact rfl)) ?_; refine wO_nil ?_; refine kR_k (by simp only [keepE, dstE, geT, paramsE, cond_true, cond_false, Nat.beq]; exact rfl) ?_; refine kS_n ?_; refine wE_true (by exact rfl) ?_; refine wE_seq ?_; refine wE_region ?_; refine wO_val (a_mov (by exact rfl)) ?_; refine wO_nil ?_
                refine kR_k (by simp only [keepE, dstE, geT, paramsE, cond_true, cond_false, Nat.beq]; exact rfl) ?_; refine kS_n ?_; refine wE_ret ?_; refine kS_r ?_; refine kB_r ?_; refine kS_r ?_; refine kS_r ?_; refine kB_r ?_; refine kS_r ?_
                exact bad hgf hx3.log rfl
              · refine FW.pu (in80F F.p F.f80 (.of hw3) c3) ?_
                refine wO_on (by exact rfl) ?_; refine wO_val (a_not (by exact rfl)) ?_; refine wO_val (a_pickF (by exact rfl) (by exact rfl)) ?_; refine wO_val (a_mov (by exact rfl)) ?_; refine wO_off (by exact rfl) (by exact rfl) ?_; refine wO_off (by exact rfl) (by exact rfl) ?_; refine wO_off (by exact rfl) (by exact rfl) ?_; refine wO_off (by exact rfl) (by exact rfl) ?_
                refine wO_val (a_pickT (by exact rfl) (by exact rfl)) ?_; refine wO_nil ?_; refine kR_k (by simp only [keepE, dstE, geT, paramsE, cond_true, cond_false, Nat.beq]; exact rfl) ?_; refine kS_n ?_; refine wE_true (by exact rfl) ?_; refine wE_seq ?_; refine wE_region ?_; refine wO_val (a_mov (by exact rfl)) ?_; refine wO_nil ?_
                refine kR_k (by simp only [keepE, dstE, geT, paramsE, cond_true, cond_false, Nat.beq]; exact rfl) ?_; refine kS_n ?_; refine wE_ret ?_; refine kS_r ?_; refine kB_r ?_; refine kS_r ?_; refine kS_r ?_; refine kB_r ?_; refine kS_r ?_
                exact bad hgf hx3.log rfl
            · refine FW.pu (in80F F.p F.f80 (.of hw3) c2) ?_
              refine wO_on (by exact rfl) ?_; refine wO_val (a_not (by exact rfl)) ?_; refine wO_val (a_pickF (by exact rfl) (by exact rfl)) ?_; refine wO_val (a_mov (by exact rfl)) ?_; refine wO_off (by exact rfl) (by exact rfl) ?_; refine wO_off (by exact rfl) (by exact rfl) ?_; refine wO_off (by exact rfl) (by exact rfl) ?_; refine wO_off (by exact rfl) (by exact rfl) ?_
              refine wO_val (a_pickT (by exact rfl) (by exact rfl)) ?_; refine wO_val (a_mov (by exact rfl)) ?_; refine wO_off (by exact rfl) (by exact rfl) ?_; refine wO_off (by exact rfl) (by exact rfl) ?_; refine wO_off (by exact rfl) (by exact rfl) ?_; refine wO_off (by exact rfl) (by exact rfl) ?_; refine wO_val (a_pickT (by exact rfl) (by exact rfl)) ?_; refine wO_nil ?_
              refine kR_k (by simp only [keepE, dstE, geT, paramsE, cond_true, cond_false, Nat.beq]; exact rfl) ?_; refine kS_n ?_; refine wE_true (by exact rfl) ?_; refine wE_seq ?_; refine wE_region ?_; refine wO_val (a_mov (by exact rfl)) ?_; refine wO_nil ?_; refine kR_k (by simp only [keepE, dstE, geT, paramsE, cond_true, cond_false, Nat.beq]; exact rfl) ?_; refine kS_n ?_; refine wE_ret ?_; refine kS_r ?_
              refine kB_r ?_; refine kS_r ?_; refine kS_r ?_; refine kB_r ?_; refine kS_r ?_
              exact bad hgf hx3.log rfl
          · refine FW.pu (in80F F.p F.f80 (.of hw3) c1) ?_
            refine wO_val (a_not (by exact rfl)) ?_; refine wO_val (a_mov (by exact rfl)) ?_; refine wO_off (by exact rfl) (by exact rfl) ?_; refine wO_off (by exact rfl) (by exact rfl) ?_; refine wO_off (by exact rfl) (by exact rfl) ?_; refine wO_off (by exact rfl) (by exact rfl) ?_; refine wO_val (a_pickT (by exact rfl) (by exact rfl)) ?_; refine wO_val (a_mov (by exact rfl)) ?_
            refine wO_off (by exact rfl) (by exact rfl) ?_; refine wO_off (by exact rfl) (by exact rfl) ?_; refine wO_off (by exact rfl) (by exact rfl) ?_; refine wO_off (by exact rfl) (by exact rfl) ?_; refine wO_val (a_pickT (by exact rfl) (by exact rfl)) ?_; refine wO_val (a_mov (by exact rfl)) ?_; refine wO_off (by exact rfl) (by exact rfl) ?_; refine wO_off (by exact rfl) (by exact rfl) ?_
            refine wO_off (by exact rfl) (by exact rfl) ?_; refine wO_off (by exact rfl) (by exact rfl) ?_; refine wO_val (a_pickT (by exact rfl) (by exact rfl)) ?_; refine wO_nil ?_; refine kR_k (by simp only [keepE, dstE, geT, paramsE, cond_true, cond_false, Nat.beq]; exact rfl) ?_; refine kS_n ?_; refine wE_true (by exact rfl) ?_; refine wE_seq ?_; refine wE_region ?_; refine wO_val (a_mov (by exact rfl)) ?_
            refine wO_nil ?_; refine kR_k (by simp only [keepE, dstE, geT, paramsE, cond_true, cond_false, Nat.beq]; exact rfl) ?_; refine kS_n ?_; refine wE_ret ?_; refine kS_r ?_; refine kB_r ?_; refine kS_r ?_; refine kS_r ?_; refine kB_r ?_; refine kS_r ?_
            exact bad hgf hx3.log rfl
    · obtain rfl : i = n := by omega
      have hall : (List.range i).all (goodK l) = true := by
        rw [List.all_eq_true]
        intro j hj
        exact hpre j (by simpa using hj)
      refine wE_seq ?_; refine wE_seq ?_; refine wE_region ?_; refine wO_val (a_mov (by exact rfl)) ?_; refine wO_val (a_faddr (by exact rfl)) ?_; refine wO_val (a_load (by exact rfl) (by assumption) (by exact rfl)) ?_; refine wO_val (a_len1 (by exact rfl)) ?_; refine wO_val (a_num (by exact rfl) (by exact rfl) (by exact m_geqF (by omega))) ?_; refine wO_nil ?_
      refine kR_k (by simp only [keepE, dstE, geT, paramsE, cond_true, cond_false, Nat.beq]; exact rfl) ?_; refine kS_n ?_; refine wE_false (by exact rfl) ?_; refine wE_exit ?_; refine kS_e ?_; refine kS_e ?_; refine kB_e ?_; refine kS_n ?_; refine wE_seq ?_; refine wE_seq ?_; refine wE_region ?_; refine wO_val (a_faddr (by exact rfl)) ?_
      refine wO_val (a_load (by exact rfl) (by assumption) (by exact rfl)) ?_
      refine wO_call (a_call (by exact rfl) (by exact rfl) (by exact rfl) (by exact rfl)) ?_
      by_cases hk : 0 ≤ kerf ∧ kerf ≤ 2
      · refine FW.pu (in80T F.p F.f80 (.of (hx.wf (hr.wf.push _))) hk) ?_
        refine wO_val (a_not (by exact rfl)) ?_; refine wO_nil ?_; refine kR_k (by simp only [keepE, dstE, geT, paramsE, cond_true, cond_false, Nat.beq]; exact rfl) ?_; refine kS_n ?_; refine wE_false (by exact rfl) ?_; refine wE_skip ?_; refine kS_n ?_; refine wE_seq ?_; refine wE_region ?_; refine wO_val (a_mov (by exact rfl)) ?_; refine wO_nil ?_
        refine kR_k (by simp only [keepE, dstE, geT, paramsE, cond_true, cond_false, Nat.beq]; exact rfl) ?_; refine kS_n ?_; refine wE_ret ?_
        refine endP_ret (hx.log.trans hr.log) rfl ?_
        show Value.int .i64 0 = _
        rw [good, hall, decide_eq_true hk]; rfl
      · refine FW.pu (in80F F.p F.f80 (.of (hx.wf (hr.wf.push _))) hk) ?_
        refine wO_val (a_not (by exact rfl)) ?_; refine wO_nil ?_; refine kR_k (by simp only [keepE, dstE, geT, paramsE, cond_true, cond_false, Nat.beq]; exact rfl) ?_; refine kS_n ?_; refine wE_true (by exact rfl) ?_; refine wE_seq ?_; refine wE_region ?_; refine wO_val (a_mov (by exact rfl)) ?_; refine wO_nil ?_
        refine kR_k (by simp only [keepE, dstE, geT, paramsE, cond_true, cond_false, Nat.beq]; exact rfl) ?_; refine kS_n ?_; refine wE_ret ?_; refine kS_r ?_
        exact bad (by rw [good, decide_eq_false hk]; rfl) hx.log rfl
end Go.A.Pk
end
section
set_option maxRecDepth 100000
namespace Go.A.Pk
variable {T : Nat → Option AFunc}
def bcs (l : List Bool) : List Value := l.map .bool
theorem slice_elem1 {h : Heap} {b o n : Nat} {l : List Value} (s : SliceAt h b o n 1 l) {i : Nat} {x : Value} (hi : l[i]? = some x) : ∃ vs own t, h.get b = some (.cells vs own t) ∧ lget vs (o + i * 1) = some x := by
  obtain ⟨vs, own, t, h1, h2⟩ := s.obj
  refine ⟨vs, own, t, h1, ?_⟩
  rw [ltake_eq, ldrop_eq] at h2
  have hl := s.len
  have hin : i < l.length := (List.getElem?_eq_some_iff.1 hi).1
  rw [← h2, List.getElem?_take_of_lt (by omega), List.getElem?_drop] at hi
  rw [lget_eq, Nat.mul_one]; exact hi
structure FnsC (T : Nat → Option AFunc) : Prop where
  p : primAS T
  f18 : T 18 = some f18
  f77 : T 77 = some f77
  f97 : T 97 = some f97
  f122 : T 122 = some f122
  f149 : T 149 = some f149
theorem index149 (F : FnsC T) {h : Heap} (hr : Rdy h) {v : Value} {n : Nat} {l : List Bool} (hs : SliceOf h 1 v n (bcs l)) (hn : n < 1000000) : ∃ z : Int, Pu T 149 [v, .bool false] h (.int .i64 z) ∧ decide (0 ≤ z) = !(l.all id) := by
  have hlen : l.length = n := by have := hs.len; simp [bcs] at this; omega
  obtain ⟨a, c, rfl⟩ := hs.form
  by_cases hall : l.all id = true
  · refine ⟨-1, ?_, by rw [hall]; rfl⟩
    refine .of F.p F.f149 hr rfl ?_
    refine wE_seq ?_; refine wE_region ?_; refine wO_val (a_mov (by exact rfl)) ?_; refine wO_nil ?_; refine kR_k (by simp only [keepE, dstE, geT, paramsE, cond_true, cond_false, Nat.beq]; exact rfl) ?_; refine kS_n ?_; refine wE_seq ?_; refine wE_seq ?_; refine wE_region ?_; refine wO_val (a_mov (by exact rfl)) ?_; refine wO_val (a_len1 (by exact rfl)) ?_; refine wO_val (a_mov (by exact rfl)) ?_
    refine wO_nil ?_; refine kR_k (by simp only [keepE, dstE, geT, paramsE, cond_true, cond_false, Nat.beq]; exact rfl) ?_; refine kS_n ?_; refine wE_block ?_
    refine wE_loop (fun k e ds h' => ∃ i : Nat, i ≤ n ∧ k = n - i ∧ e = [(0, .slice a n c), (1, .bool false), (7, .int .i64 n), (8, .int .i64 i)] ∧ ds = [] ∧ h' = h)
      ⟨0, Nat.zero_le _, rfl, rfl, rfl, rfl⟩ ?_
    rintro k e ds h' ⟨i, hi, rfl, rfl, rfl, rfl⟩
    by_cases hlt : i < n
    · have hxl : l[i]? = some true := by
        rw [List.getElem?_eq_getElem (by omega)]
        rw [List.all_eq_true] at hall
        exact congrArg some (hall _ (List.getElem_mem (by omega)))
      rcases hs.inv with ⟨_, _, h0, _⟩ | ⟨b, o, cap', hv, s, _⟩
      · omega
      · cases hv
        obtain ⟨vs, own, t, g1, g2⟩ := slice_elem1 s (x := .bool true) (i := i) (by simp [bcs, hxl])
        refine wE_seq ?_; refine wE_region ?_; refine wO_val (a_num (by exact rfl) (by exact rfl) (by exact m_geqT (by omega))) ?_; refine wO_nil ?_; refine kR_k (by simp only [keepE, dstE, geT, paramsE, cond_true, cond_false, Nat.beq]; exact rfl) ?_; refine kS_n ?_; refine wE_seq ?_; refine wE_true (by exact rfl) ?_; refine wE_skip ?_; refine kS_n ?_; refine wE_seq ?_; refine wE_block ?_; refine wE_seq ?_
        refine wE_region ?_; refine wO_val (a_mov (by exact rfl)) ?_; refine wO_val (a_mov (by exact rfl)) ?_; refine wO_nil ?_; refine kR_k (by simp only [keepE, dstE, geT, paramsE, cond_true, cond_false, Nat.beq]; exact rfl) ?_; refine kS_n ?_; refine wE_seq ?_; refine wE_region ?_; refine wO_val (a_mov (by exact rfl)) ?_; refine wO_val (a_mov (by exact rfl)) ?_; refine wO_val (a_mov (by exact rfl)) ?_
        refine wO_val (a_iaddrS (by exact rfl) (by exact rfl) hlt) ?_
        refine wO_val (a_load (by exact rfl) g1 g2) ?_
        refine wO_val (a_beq (by exact rfl) (by exact rfl)) ?_
        refine wO_nil ?_; refine kR_k (by simp only [keepE, dstE, geT, paramsE, cond_true, cond_false, Nat.beq]; exact rfl) ?_; refine kS_n ?_; refine wE_false (by exact rfl) ?_; refine wE_skip ?_; refine kB_n ?_; refine kS_n ?_; refine wE_region ?_; refine wO_val (a_num (by exact rfl) (by exact rfl) (by exact m_inc (by omega))) ?_; refine wO_val (a_mov (by exact rfl)) ?_; refine wO_nil ?_
        refine kR_k (by simp only [keepE, dstE, geT, paramsE, cond_true, cond_false, Nat.beq]; exact rfl) ?_; refine kS_n ?_
        exact ⟨n - (i + 1), by omega, i + 1, by omega, rfl, rfl, rfl, rfl⟩
    · obtain rfl : i = n := by omega
      refine wE_seq ?_; refine wE_region ?_; refine wO_val (a_num (by exact rfl) (by exact rfl) (by exact m_geqF (by omega))) ?_; refine wO_nil ?_; refine kR_k (by simp only [keepE, dstE, geT, paramsE, cond_true, cond_false, Nat.beq]; exact rfl) ?_; refine kS_n ?_; refine wE_seq ?_; refine wE_false (by exact rfl) ?_; refine wE_exit ?_; refine kS_e ?_; refine kS_e ?_; refine kB_e ?_; refine kS_n ?_
      refine wE_seq ?_; refine wE_region ?_; refine wO_val (a_mov (by exact rfl)) ?_; refine wO_nil ?_; refine kR_k (by simp only [keepE, dstE, geT, paramsE, cond_true, cond_false, Nat.beq]; exact rfl) ?_; refine kS_n ?_; refine wE_ret ?_
      exact endP_ret hr.log rfl rfl
  · obtain ⟨m, hm1, hm2⟩ : ∃ m : Nat, l[m]? = some false ∧ ∀ j, j < m → l[j]? = some true := by
      have hall' : l.all id = false := by simpa using hall
      clear hall hs hlen
      induction l with
      | nil => simp at hall'
      | cons b l ih =>
        cases b with
        | false => exact ⟨0, rfl, fun j hj => absurd hj (Nat.not_lt_zero j)⟩
        | true =>
          obtain ⟨m, h1, h2⟩ := ih (by simpa using hall')
          refine ⟨m + 1, by simpa using h1, fun j hj => ?_⟩
          cases j with
          | zero => rfl
          | succ j => simpa using h2 j (by omega)
    have hml : m < n := by have := (List.getElem?_eq_some_iff.1 hm1).1; omega
    refine ⟨m, ?_, by rw [show l.all id = false by simpa using hall]; simp⟩
    refine .of F.p F.f149 hr rfl ?_
    refine wE_seq ?_; refine wE_region ?_; refine wO_val (a_mov (by exact rfl)) ?_; refine wO_nil ?_; refine kR_k (by simp only [keepE, dstE, geT, paramsE, cond_true, cond_false, Nat.beq]; exact rfl) ?_; refine kS_n ?_; refine wE_seq ?_; refine wE_seq ?_; refine wE_region ?_; refine wO_val (a_mov (by exact rfl)) ?_; refine wO_val (a_len1 (by exact rfl)) ?_; refine wO_val (a_mov (by exact rfl)) ?_
    refine wO_nil ?_; refine kR_k (by simp only [keepE, dstE, geT, paramsE, cond_true, cond_false, Nat.beq]; exact rfl) ?_; refine kS_n ?_; refine wE_block ?_
    refine wE_loop (fun k e ds h' => ∃ i : Nat, i ≤ m ∧ k = n - i ∧ e = [(0, .slice a n c), (1, .bool false), (7, .int .i64 n), (8, .int .i64 i)] ∧ ds = [] ∧ h' = h)
      ⟨0, Nat.zero_le _, rfl, rfl, rfl, rfl⟩ ?_
    rintro k e ds h' ⟨i, hi, rfl, rfl, rfl, rfl⟩
    rcases hs.inv with ⟨_, _, h0, _⟩ | ⟨b, o, cap', hv, s, _⟩
    · omega
    · cases hv
      by_cases hlt : i < m
      · have hxl := hm2 i hlt
        obtain ⟨vs, own, t, g1, g2⟩ := slice_elem1 s (x := .bool true) (i := i) (by simp [bcs, hxl])
        refine wE_seq ?_; refine wE_region ?_; refine wO_val (a_num (by exact rfl) (by exact rfl) (by exact m_geqT (by omega))) ?_; refine wO_nil ?_; refine kR_k (by simp only [keepE, dstE, geT, paramsE, cond_true, cond_false, Nat.beq]; exact rfl) ?_; refine kS_n ?_; refine wE_seq ?_; refine wE_true (by exact rfl) ?_; refine wE_skip ?_; refine kS_n ?_; refine wE_seq ?_; refine wE_block ?_; refine wE_seq ?_
        refine wE_region ?_; refine wO_val (a_mov (by exact rfl)) ?_; refine wO_val (a_mov (by exact rfl)) ?_; refine wO_nil ?_; refine kR_k (by simp only [keepE, dstE, geT, paramsE, cond_true, cond_false, Nat.beq]; exact rfl) ?_; refine kS_n ?_; refine wE_seq ?_; refine wE_region ?_; refine wO_val (a_mov (by exact rfl)) ?_; refine wO_val (a_mov (by exact rfl)) ?_; refine wO_val (a_mov (by exact rfl)) ?_
        refine wO_val (a_iaddrS (by exact rfl) (by exact rfl) (by omega)) ?_
        refine wO_val (a_load (by exact rfl) g1 g2) ?_
        refine wO_val (a_beq (by exact rfl) (by exact rfl)) ?_
        refine wO_nil ?_; refine kR_k (by simp only [keepE, dstE, geT, paramsE, cond_true, cond_false, Nat.beq]; exact rfl) ?_; refine kS_n ?_; refine wE_false (by exact rfl) ?_; refine wE_skip ?_; refine kB_n ?_; refine kS_n ?_; refine wE_region ?_; refine wO_val (a_num (by exact rfl) (by exact rfl) (by exact m_inc (by omega))) ?_; refine wO_val (a_mov (by exact rfl)) ?_; refine wO_nil ?_
        refine kR_k (by simp only [keepE, dstE, geT, paramsE, cond_true, cond_false, Nat.beq]; exact rfl) ?_; refine kS_n ?_
        exact ⟨n - (i + 1), by omega, i + 1, by omega, rfl, rfl, rfl, rfl⟩
      · obtain rfl : i = m := by omega
        obtain ⟨vs, own, t, g1, g2⟩ := slice_elem1 s (x := .bool false) (i := i) (by simp [bcs, hm1])
        refine wE_seq ?_; refine wE_region ?_; refine wO_val (a_num (by exact rfl) (by exact rfl) (by exact m_geqT (by omega))) ?_; refine wO_nil ?_; refine kR_k (by simp only [keepE, dstE, geT, paramsE, cond_true, cond_false, Nat.beq]; exact rfl) ?_; refine kS_n ?_; refine wE_seq ?_; refine wE_true (by exact rfl) ?_; refine wE_skip ?_; refine kS_n ?_; refine wE_seq ?_; refine wE_block ?_; refine wE_seq ?_
        refine wE_region ?_; refine wO_val (a_mov (by exact rfl)) ?_; refine wO_val (a_mov (by exact rfl)) ?_; refine wO_nil ?_; refine kR_k (by simp only [keepE, dstE, geT, paramsE, cond_true, cond_false, Nat.beq]; exact rfl) ?_; refine kS_n ?_; refine wE_seq ?_; refine wE_region ?_; refine wO_val (a_mov (by exact rfl)) ?_; refine wO_val (a_mov (by exact rfl)) ?_; refine wO_val (a_mov (by exact rfl)) ?_
        refine wO_val (a_iaddrS (by exact rfl) (by exact rfl) (by omega)) ?_
        refine wO_val (a_load (by exact rfl) g1 g2) ?_
        refine wO_val (a_beq (by exact rfl) (by exact rfl)) ?_
        refine wO_nil ?_; refine kR_k (by simp only [keepE, dstE, geT, paramsE, cond_true, cond_false, Nat.beq]; exact rfl) ?_; refine kS_n ?_; refine wE_true (by exact rfl) ?_; refine wE_seq ?_; refine wE_region ?_; refine wO_val (a_mov (by exact rfl)) ?_; refine wO_val (a_mov (by exact rfl)) ?_; refine wO_nil ?_
        refine kR_k (by simp only [keepE, dstE, geT, paramsE, cond_true, cond_false, Nat.beq]; exact rfl) ?_; refine kS_n ?_; refine wE_ret ?_; refine kB_r ?_; refine kS_r ?_; refine kS_r ?_; refine kB_r ?_; refine kS_r ?_
        exact endP_ret hr.log rfl rfl
theorem contains122 (F : FnsC T) {h : Heap} (hr : Rdy h) {v : Value} {n : Nat} {l : List Bool} (hs : SliceOf h 1 v n (bcs l)) (hn : n < 1000000) : Pu T 122 [v, .bool false] h (.bool !(l.all id)) := by
  obtain ⟨ob, nx, lg⟩ := h
  obtain rfl : lg = [] := hr.log
  obtain ⟨z, hz, hz2⟩ := index149 F hr hs hn
  refine .of F.p F.f122 hr rfl ?_
  refine wE_seq ?_; refine wE_region ?_; refine wO_val (a_mov (by exact rfl)) ?_; refine wO_nil ?_; refine kR_k (by simp only [keepE, dstE, geT, paramsE, cond_true, cond_false, Nat.beq]; exact rfl) ?_; refine kS_n ?_; refine wE_seq ?_; refine wE_region ?_; refine wO_val (a_mov (by exact rfl)) ?_; refine wO_val (a_mov (by exact rfl)) ?_
  refine wO_call (a_call (by exact rfl) (by exact rfl) (by exact rfl) (by exact rfl)) ?_
  refine FW.pu hz ?_
  cases hl : l.all id with
  | true =>
    rw [hl] at hz2
    have : z < 0 := by simpa using hz2
    refine wO_val (a_num (by exact rfl) (by exact rfl) (by exact m_geqF (by omega))) ?_; refine wO_val (a_mov (by exact rfl)) ?_; refine wO_nil ?_; refine kR_k (by simp only [keepE, dstE, geT, paramsE, cond_true, cond_false, Nat.beq]; exact rfl) ?_; refine kS_n ?_; refine wE_ret ?_
    exact endP_ret rfl rfl rfl
  | false =>
    rw [hl] at hz2
    have : 0 ≤ z := by simpa using hz2
    refine wO_val (a_num (by exact rfl) (by exact rfl) (by exact m_geqT (by omega))) ?_; refine wO_val (a_mov (by exact rfl)) ?_; refine wO_nil ?_; refine kR_k (by simp only [keepE, dstE, geT, paramsE, cond_true, cond_false, Nat.beq]; exact rfl) ?_; refine kS_n ?_; refine wE_ret ?_
    exact endP_ret rfl rfl rfl
theorem isKind97 (F : FnsC T) {h : Heap} (hr : Rdy h) {a : Option Addr} {n c : Nat} (kerf kind : Int) (hn : n < 1000000) : Pu T 97 [.agg #[.slice a n c, .int .i64 kerf], .int .i64 kind] h (.bool (decide (0 ≤ kind ∧ kind < n))) := by
  have hsub : wrapA .i64 ((n : Int) - 1) = (n : Int) - 1 := wrapA_i64 (by omega) (by omega)
  by_cases hk : 0 ≤ kind ∧ kind < n
  · rw [decide_eq_true hk]
    refine .of F.p F.f97 hr rfl ?_
    refine wE_seq ?_; refine wE_region ?_; refine wO_val (a_box (by exact rfl) (by exact rfl)) ?_; refine wO_val (a_mov (by exact rfl)) ?_; refine wO_nil ?_; refine kR_k (by simp only [keepE, dstE, geT, paramsE, cond_true, cond_false, Nat.beq]; exact rfl) ?_; refine kS_n ?_; refine wE_seq ?_; refine wE_region ?_; refine wO_val (a_mov (by exact rfl)) ?_; refine wO_val (a_faddr (by exact rfl)) ?_
    refine wO_val (a_load (by exact rfl) (by (simp (disch := first | omega | (simp only [z1, z2]; omega)) only [z3, z4, z5, z6, z7, z1, z2, *]; exact rfl)) (by exact rfl)) ?_; refine wO_val (a_len1 (by exact rfl)) ?_
    refine wO_val (a_num (by exact rfl) (by exact rfl) (m_sub hsub)) ?_
    refine wO_call (a_call (by exact rfl) (by exact rfl) (by exact rfl) (by exact rfl)) ?_
    refine FW.pu (in77T F.p F.f77 (.of (hr.wf.push _)) (by omega)) ?_
    refine wO_val (a_mov (by exact rfl)) ?_; refine wO_nil ?_; refine kR_k (by simp only [keepE, dstE, geT, paramsE, cond_true, cond_false, Nat.beq]; exact rfl) ?_; refine kS_n ?_; refine wE_ret ?_
    exact endP_ret hr.log rfl rfl
  · rw [decide_eq_false hk]
    refine .of F.p F.f97 hr rfl ?_
    refine wE_seq ?_; refine wE_region ?_; refine wO_val (a_box (by exact rfl) (by exact rfl)) ?_; refine wO_val (a_mov (by exact rfl)) ?_; refine wO_nil ?_; refine kR_k (by simp only [keepE, dstE, geT, paramsE, cond_true, cond_false, Nat.beq]; exact rfl) ?_; refine kS_n ?_; refine wE_seq ?_; refine wE_region ?_; refine wO_val (a_mov (by exact rfl)) ?_; refine wO_val (a_faddr (by exact rfl)) ?_
    refine wO_val (a_load (by exact rfl) (by (simp (disch := first | omega | (simp only [z1, z2]; omega)) only [z3, z4, z5, z6, z7, z1, z2, *]; exact rfl)) (by exact rfl)) ?_; refine wO_val (a_len1 (by exact rfl)) ?_
    refine wO_val (a_num (by exact rfl) (by exact rfl) (m_sub hsub)) ?_
    refine wO_call (a_call (by exact rfl) (by exact rfl) (by exact rfl) (by exact rfl)) ?_
    refine FW.pu (in77F F.p F.f77 (.of (hr.wf.push _)) (by omega)) ?_
    refine wO_val (a_mov (by exact rfl)) ?_; refine wO_nil ?_; refine kR_k (by simp only [keepE, dstE, geT, paramsE, cond_true, cond_false, Nat.beq]; exact rfl) ?_; refine kS_n ?_; refine wE_ret ?_
    exact endP_ret hr.log rfl rfl
theorem few18 (F : FnsC T) {h : Heap} (hr : Rdy h) {a : Option Addr} {n c : Nat} (kerf : Int) : Pu T 18 [.agg #[.slice a n c, .int .i64 kerf]] h (.bool (decide (n ≤ 16))) := by
  by_cases hk : n ≤ 16
  · rw [decide_eq_true hk]
    refine .of F.p F.f18 hr rfl ?_
    refine wE_seq ?_; refine wE_region ?_; refine wO_val (a_box (by exact rfl) (by exact rfl)) ?_; refine wO_val (a_mov (by exact rfl)) ?_; refine wO_nil ?_; refine kR_k (by simp only [keepE, dstE, geT, paramsE, cond_true, cond_false, Nat.beq]; exact rfl) ?_; refine kS_n ?_; refine wE_seq ?_; refine wE_region ?_; refine wO_val (a_faddr (by exact rfl)) ?_
    refine wO_val (a_load (by exact rfl) (by (simp (disch := first | omega | (simp only [z1, z2]; omega)) only [z3, z4, z5, z6, z7, z1, z2, *]; exact rfl)) (by exact rfl)) ?_; refine wO_val (a_len1 (by exact rfl)) ?_
    refine wO_val (a_num (by exact rfl) (by exact rfl) (by exact m_geqT (by omega))) ?_; refine wO_val (a_mov (by exact rfl)) ?_; refine wO_nil ?_; refine kR_k (by simp only [keepE, dstE, geT, paramsE, cond_true, cond_false, Nat.beq]; exact rfl) ?_; refine kS_n ?_; refine wE_ret ?_
    exact endP_ret hr.log rfl rfl
  · rw [decide_eq_false hk]
    refine .of F.p F.f18 hr rfl ?_
    refine wE_seq ?_; refine wE_region ?_; refine wO_val (a_box (by exact rfl) (by exact rfl)) ?_; refine wO_val (a_mov (by exact rfl)) ?_; refine wO_nil ?_; refine kR_k (by simp only [keepE, dstE, geT, paramsE, cond_true, cond_false, Nat.beq]; exact rfl) ?_; refine kS_n ?_; refine wE_seq ?_; refine wE_region ?_; refine wO_val (a_faddr (by exact rfl)) ?_
    refine wO_val (a_load (by exact rfl) (by (simp (disch := first | omega | (simp only [z1, z2]; omega)) only [z3, z4, z5, z6, z7, z1, z2, *]; exact rfl)) (by exact rfl)) ?_; refine wO_val (a_len1 (by exact rfl)) ?_
    refine wO_val (a_num (by exact rfl) (by exact rfl) (by exact m_geqF (by omega))) ?_; refine wO_val (a_mov (by exact rfl)) ?_; refine wO_nil ?_; refine kR_k (by simp only [keepE, dstE, geT, paramsE, cond_true, cond_false, Nat.beq]; exact rfl) ?_; refine kS_n ?_; refine wE_ret ?_
    exact endP_ret hr.log rfl rfl
structure FnsD (T : Nat → Option AFunc) : Prop extends FnsB T where
  f79 : T 79 = some f79
  f99 : T 99 = some f99
  f123 : T 123 = some f123
theorem board123 (F : FnsD T) {h : Heap} (hr : Rdy h) (w ht : Int) : Pu T 123 [.int .i64 w, .int .i64 ht] h (.bool (decide ((1 ≤ w ∧ w ≤ 16) ∧ (1 ≤ ht ∧ ht ≤ 16)))) := by
  obtain ⟨ob, nx, lg⟩ := h
  obtain rfl : lg = [] := hr.log
  by_cases c1 : 1 ≤ w ∧ w ≤ 16
  · by_cases c2 : 1 ≤ ht ∧ ht ≤ 16
    · rw [decide_eq_true ⟨c1, c2⟩]
      refine .of F.p F.f123 hr rfl ?_
      refine wE_seq ?_; refine wE_region ?_; refine wO_val (a_mov (by exact rfl)) ?_; refine wO_nil ?_; refine kR_k (by simp only [keepE, dstE, geT, paramsE, cond_true, cond_false, Nat.beq]; exact rfl) ?_; refine kS_n ?_; refine wE_seq ?_; refine wE_region ?_; refine wO_val (a_mov (by exact rfl)) ?_
      refine wO_call (a_call (by exact rfl) (by exact rfl) (by exact rfl) (by exact rfl)) ?_
      refine FW.pu (in80T F.p F.f80 hr c1) ?_
      refine wO_val (a_mov (by exact rfl)) ?_; refine wO_on (by exact rfl) ?_; refine wO_val (a_mov (by exact rfl)) ?_; refine wO_on (by exact rfl) ?_
      refine wO_call (a_call (by exact rfl) (by exact rfl) (by exact rfl) (by exact rfl)) ?_
      refine FW.pu (in80T F.p F.f80 hr c2) ?_
      refine wO_val (a_pickT (by exact rfl) (by exact rfl)) ?_; refine wO_val (a_mov (by exact rfl)) ?_; refine wO_nil ?_; refine kR_k (by simp only [keepE, dstE, geT, paramsE, cond_true, cond_false, Nat.beq]; exact rfl) ?_; refine kS_n ?_; refine wE_ret ?_
      exact endP_ret rfl rfl rfl
    · rw [decide_eq_false (by omega)]
      refine .of F.p F.f123 hr rfl ?_
      refine wE_seq ?_; refine wE_region ?_; refine wO_val (a_mov (by exact rfl)) ?_; refine wO_nil ?_; refine kR_k (by simp only [keepE, dstE, geT, paramsE, cond_true, cond_false, Nat.beq]; exact rfl) ?_; refine kS_n ?_; refine wE_seq ?_; refine wE_region ?_; refine wO_val (a_mov (by exact rfl)) ?_
      refine wO_call (a_call (by exact rfl) (by exact rfl) (by exact rfl) (by exact rfl)) ?_
      refine FW.pu (in80T F.p F.f80 hr c1) ?_
      refine wO_val (a_mov (by exact rfl)) ?_; refine wO_on (by exact rfl) ?_; refine wO_val (a_mov (by exact rfl)) ?_; refine wO_on (by exact rfl) ?_
      refine wO_call (a_call (by exact rfl) (by exact rfl) (by exact rfl) (by exact rfl)) ?_
      refine FW.pu (in80F F.p F.f80 hr c2) ?_
      refine wO_val (a_pickT (by exact rfl) (by exact rfl)) ?_; refine wO_val (a_mov (by exact rfl)) ?_; refine wO_nil ?_; refine kR_k (by simp only [keepE, dstE, geT, paramsE, cond_true, cond_false, Nat.beq]; exact rfl) ?_; refine kS_n ?_; refine wE_ret ?_
      exact endP_ret rfl rfl rfl
  · rw [decide_eq_false (by omega)]
    refine .of F.p F.f123 hr rfl ?_
    refine wE_seq ?_; refine wE_region ?_; refine wO_val (a_mov (by exact rfl)) ?_; refine wO_nil ?_; refine kR_k (by simp only [keepE, dstE, geT, paramsE, cond_true, cond_false, Nat.beq]; exact rfl) ?_; refine kS_n ?_; refine wE_seq ?_; refine wE_region ?_; refine wO_val (a_mov (by exact rfl)) ?_
    refine wO_call (a_call (by exact rfl) (by exact rfl) (by exact rfl) (by exact rfl)) ?_
    refine FW.pu (in80F F.p F.f80 hr c1) ?_
    refine wO_val (a_mov (by exact rfl)) ?_; refine wO_off (by exact rfl) (by exact rfl) ?_; refine wO_off (by exact rfl) (by exact rfl) ?_; refine wO_val (a_pickF (by exact rfl) (by exact rfl)) ?_; refine wO_val (a_mov (by exact rfl)) ?_; refine wO_nil ?_; refine kR_k (by simp only [keepE, dstE, geT, paramsE, cond_true, cond_false, Nat.beq]; exact rfl) ?_; refine kS_n ?_; refine wE_ret ?_
    exact endP_ret rfl rfl rfl
def asked (kerf : Int) (l : List Kd) (b : Prop) [Decidable b] : Int := if chk kerf l = 0 then (if b then 0 else 1) else chk kerf l
theorem asked79 (F : FnsD T) {h : Heap} (hr : Rdy h) {a : Option Addr} {n c : Nat} {l : List Kd} (hs : SliceOf h 5 (.slice a n c) n (kcs l)) (kerf w ht : Int) (hn : n < 1000000) :
    Pu T 79 [.agg #[.slice a n c, .int .i64 kerf], .int .i64 w, .int .i64 ht] h (.int .i64 (asked kerf l ((1 ≤ w ∧ w ≤ 16) ∧ (1 ≤ ht ∧ ht ≤ 16)))) := by
  refine .of F.p F.f79 hr rfl ?_
  have hx : Ext h (h.push (.cells [.slice a n c, .int .i64 kerf] true 1)) := (Ext.refl h).push _
  unfold asked
  by_cases hc : chk kerf l = 0
  · rw [if_pos hc]
    by_cases c1 : (1 ≤ w ∧ w ≤ 16) ∧ (1 ≤ ht ∧ ht ≤ 16)
    · rw [if_pos c1]
      refine wE_seq ?_; refine wE_region ?_; refine wO_val (a_box (by exact rfl) (by exact rfl)) ?_; refine wO_val (a_mov (by exact rfl)) ?_; refine wO_nil ?_; refine kR_k (by simp only [keepE, dstE, geT, paramsE, cond_true, cond_false, Nat.beq]; exact rfl) ?_; refine kS_n ?_; refine wE_seq ?_; refine wE_region ?_
      refine wO_val (a_loadN (by exact rfl) (by (simp (disch := first | omega | (simp only [z1, z2]; omega)) only [z3, z4, z5, z6, z7, z1, z2, *]; exact rfl)) (by exact rfl) (by exact rfl)) ?_
      refine wO_call (a_call (by exact rfl) (by exact rfl) (by exact rfl) (by exact rfl)) ?_
      refine FW.pu (check67 F.toFnsB (.of (hr.wf.push _)) ((hs.ext hx).log _) kerf hn) ?_
      refine wO_val (a_mov (by exact rfl)) ?_; refine wO_nil ?_; refine kR_k (by simp only [keepE, dstE, geT, paramsE, cond_true, cond_false, Nat.beq]; exact rfl) ?_; refine kS_n ?_; refine wE_seq ?_; refine wE_seq ?_; refine wE_region ?_; refine wO_val (a_mov (by exact rfl)) ?_; refine wO_val (a_num (by exact rfl) (by exact rfl) (by exact m_eqlT (by omega))) ?_; refine wO_val (a_mov (by exact rfl)) ?_
      refine wO_on (by exact rfl) ?_; refine wO_val (a_mov (by exact rfl)) ?_; refine wO_on (by exact rfl) ?_; refine wO_val (a_mov (by exact rfl)) ?_; refine wO_on (by exact rfl) ?_
      refine wO_call (a_call (by exact rfl) (by exact rfl) (by exact rfl) (by exact rfl)) ?_
      have := board123 F (.of (hr.wf.push (.cells [.slice a n c, .int .i64 kerf] true 1))) w ht
      rw [decide_eq_true c1] at this
      refine FW.pu this ?_
      refine wO_on (by exact rfl) ?_; refine wO_val (a_not (by exact rfl)) ?_; refine wO_val (a_pickT (by exact rfl) (by exact rfl)) ?_; refine wO_nil ?_; refine kR_k (by simp only [keepE, dstE, geT, paramsE, cond_true, cond_false, Nat.beq]; exact rfl) ?_; refine kS_n ?_; refine wE_false (by exact rfl) ?_; refine wE_skip ?_; refine kS_n ?_; refine wE_seq ?_; refine wE_region ?_
      refine wO_val (a_mov (by exact rfl)) ?_; refine wO_val (a_mov (by exact rfl)) ?_; refine wO_nil ?_; refine kR_k (by simp only [keepE, dstE, geT, paramsE, cond_true, cond_false, Nat.beq]; exact rfl) ?_; refine kS_n ?_; refine wE_ret ?_
      refine endP_ret hr.log rfl ?_
      show Value.int .i64 (chk kerf l) = _
      rw [hc]
    · rw [if_neg c1]
      refine wE_seq ?_; refine wE_region ?_; refine wO_val (a_box (by exact rfl) (by exact rfl)) ?_; refine wO_val (a_mov (by exact rfl)) ?_; refine wO_nil ?_; refine kR_k (by simp only [keepE, dstE, geT, paramsE, cond_true, cond_false, Nat.beq]; exact rfl) ?_; refine kS_n ?_; refine wE_seq ?_; refine wE_region ?_
      refine wO_val (a_loadN (by exact rfl) (by (simp (disch := first | omega | (simp only [z1, z2]; omega)) only [z3, z4, z5, z6, z7, z1, z2, *]; exact rfl)) (by exact rfl) (by exact rfl)) ?_
      refine wO_call (a_call (by exact rfl) (by exact rfl) (by exact rfl) (by exact rfl)) ?_
      refine FW.pu (check67 F.toFnsB (.of (hr.wf.push _)) ((hs.ext hx).log _) kerf hn) ?_
      refine wO_val (a_mov (by exact rfl)) ?_; refine wO_nil ?_; refine kR_k (by simp only [keepE, dstE, geT, paramsE, cond_true, cond_false, Nat.beq]; exact rfl) ?_; refine kS_n ?_; refine wE_seq ?_; refine wE_seq ?_; refine wE_region ?_; refine wO_val (a_mov (by exact rfl)) ?_; refine wO_val (a_num (by exact rfl) (by exact rfl) (by exact m_eqlT (by omega))) ?_; refine wO_val (a_mov (by exact rfl)) ?_
      refine wO_on (by exact rfl) ?_; refine wO_val (a_mov (by exact rfl)) ?_; refine wO_on (by exact rfl) ?_; refine wO_val (a_mov (by exact rfl)) ?_; refine wO_on (by exact rfl) ?_
      refine wO_call (a_call (by exact rfl) (by exact rfl) (by exact rfl) (by exact rfl)) ?_
      have := board123 F (.of (hr.wf.push (.cells [.slice a n c, .int .i64 kerf] true 1))) w ht
      rw [decide_eq_false c1] at this
      refine FW.pu this ?_
      refine wO_on (by exact rfl) ?_; refine wO_val (a_not (by exact rfl)) ?_; refine wO_val (a_pickT (by exact rfl) (by exact rfl)) ?_; refine wO_nil ?_; refine kR_k (by simp only [keepE, dstE, geT, paramsE, cond_true, cond_false, Nat.beq]; exact rfl) ?_; refine kS_n ?_; refine wE_true (by exact rfl) ?_; refine wE_region ?_; refine wO_val (a_mov (by exact rfl)) ?_; refine wO_nil ?_
      refine kR_k (by simp only [keepE, dstE, geT, paramsE, cond_true, cond_false, Nat.beq]; exact rfl) ?_; refine kS_n ?_; refine wE_seq ?_; refine wE_region ?_; refine wO_val (a_mov (by exact rfl)) ?_; refine wO_val (a_mov (by exact rfl)) ?_; refine wO_nil ?_; refine kR_k (by simp only [keepE, dstE, geT, paramsE, cond_true, cond_false, Nat.beq]; exact rfl) ?_; refine kS_n ?_; refine wE_ret ?_
      exact endP_ret hr.log rfl rfl
  · rw [if_neg hc]
    refine wE_seq ?_; refine wE_region ?_; refine wO_val (a_box (by exact rfl) (by exact rfl)) ?_; refine wO_val (a_mov (by exact rfl)) ?_; refine wO_nil ?_; refine kR_k (by simp only [keepE, dstE, geT, paramsE, cond_true, cond_false, Nat.beq]; exact rfl) ?_; refine kS_n ?_; refine wE_seq ?_; refine wE_region ?_
    refine wO_val (a_loadN (by exact rfl) (by (simp (disch := first | omega | (simp only [z1, z2]; omega)) only [z3, z4, z5, z6, z7, z1, z2, *]; exact rfl)) (by exact rfl) (by exact rfl)) ?_
    refine wO_call (a_call (by exact rfl) (by exact rfl) (by exact rfl) (by exact rfl)) ?_
    refine FW.pu (check67 F.toFnsB (.of (hr.wf.push _)) ((hs.ext hx).log _) kerf hn) ?_
    refine wO_val (a_mov (by exact rfl)) ?_; refine wO_nil ?_; refine kR_k (by simp only [keepE, dstE, geT, paramsE, cond_true, cond_false, Nat.beq]; exact rfl) ?_; refine kS_n ?_; refine wE_seq ?_; refine wE_seq ?_; refine wE_region ?_; refine wO_val (a_mov (by exact rfl)) ?_; refine wO_val (a_num (by exact rfl) (by exact rfl) (by exact m_eqlF (by omega))) ?_; refine wO_val (a_mov (by exact rfl)) ?_
    refine wO_off (by exact rfl) (by exact rfl) ?_; refine wO_off (by exact rfl) (by exact rfl) ?_; refine wO_off (by exact rfl) (by exact rfl) ?_; refine wO_off (by exact rfl) (by exact rfl) ?_; refine wO_val (a_pickF (by exact rfl) (by exact rfl)) ?_; refine wO_nil ?_; refine kR_k (by simp only [keepE, dstE, geT, paramsE, cond_true, cond_false, Nat.beq]; exact rfl) ?_; refine kS_n ?_
    refine wE_false (by exact rfl) ?_; refine wE_skip ?_; refine kS_n ?_; refine wE_seq ?_; refine wE_region ?_; refine wO_val (a_mov (by exact rfl)) ?_; refine wO_val (a_mov (by exact rfl)) ?_; refine wO_nil ?_; refine kR_k (by simp only [keepE, dstE, geT, paramsE, cond_true, cond_false, Nat.beq]; exact rfl) ?_; refine kS_n ?_; refine wE_ret ?_
    exact endP_ret hr.log rfl rfl
end Go.A.Pk
end
