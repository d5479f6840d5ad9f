/- Walks of Turned, SameSaw and the law. -/
import Derived.Test.YteafdpbjocdbbaaGreatDoorKV
import Derived.Test.YteafdpbjocdbbaaGreatDoorKD
set_option linter.all false
section
set_option maxRecDepth 100000
namespace Go.A.Pk
variable {T : Nat → Option AFunc}
def sw (x : Kd) : Kd := { x with w := x.h, h := x.w }
def tn : Nat → List Kd → List Kd
  | 0, l => l
  | i + 1, l => (tn i l).modify i sw
theorem tn_len : ∀ (i : Nat) (l : List Kd), (tn i l).length = l.length
  | 0, _ => rfl
  | i + 1, l => by simp [tn, tn_len i l]
theorem kcs_sw : ∀ (l : List Kd) (i : Nat) (x : Kd), l[i]? = some x → lset (lset (kcs l) (i * 5 + 1) (.int .i64 x.h)) (i * 5 + 2) (.int .i64 x.w) = kcs (l.modify i sw)
  | [], _, _, h => by simp at h
  | k :: l, 0, x, h => by
    simp only [List.getElem?_cons_zero, Option.some.injEq] at h
    subst h
    simp [kcs, kc, lset, List.modify_cons, sw]
  | k :: l, j + 1, x, h => by
    have e1 : (j + 1) * 5 + 1 = j * 5 + 1 + 5 := by omega
    have e2 : (j + 1) * 5 + 2 = j * 5 + 2 + 5 := by omega
    rw [e1, e2, List.modify_succ_cons]
    simp only [kcs, kc, List.cons_append, List.nil_append, lset]
    rw [List.getElem?_cons_succ] at h
    rw [kcs_sw l j x h]
theorem kcs_len1 (l : List Kd) (i : Nat) (v : Value) : (lset (kcs l) i v).length = l.length * 5 := by rw [lset_eq, List.length_set, kcs_length]
set_option maxHeartbeats 4000000 in
theorem turned39 (G : FnsH T) {h : Heap} (hr : Rdy h) {a : Option Addr} {n c : Nat} {l : List Kd} (hs : SliceOf h 5 (.slice a n c) n (kcs l)) (kerf : Int) (hn : n < 1000000) :
    Al T 39 [.agg #[.slice a n c, .int .i64 kerf]] h (orErr (chk kerf l) (SawQ 0 kerf (tn l.length l))) := by
  refine .of G.toFnsA.p G.f39 hr (orErr.gc SawQ.gc) ?_
  have hx : Ext h ((h.push (.cells [.slice a n c, .int .i64 kerf] true 1)).push (.cells [.slice none 0 0, .int .i64 0] true 1)) := ((Ext.refl h).push _).push _
  obtain rfl : n = l.length := by have := hs.len; rw [kcs_length] at this; omega
  refine wE_seq ?_; refine wE_region ?_; refine wO_val (a_box (by exact rfl) (by exact rfl)) ?_; refine wO_val a_new ?_; refine wO_val (a_mov (by exact rfl)) ?_; refine wO_nil ?_; refine kR_k (by simp only [keepE, dstE, geT, paramsE, cond_true, cond_false, Nat.beq]; exact rfl) ?_; refine kS_n ?_; refine wE_seq ?_; refine wE_seq ?_; refine wE_region ?_
  refine wO_val (a_loadN (by exact rfl) (by (simp (disch := first | omega | (simp only [z1, z2]; omega)) only [z3, z4, z5, z6, z7, z1, z2, *]; exact rfl)) (by exact rfl) (by exact rfl)) ?_
  refine wO_call (a_call (by exact rfl) (by exact rfl) (by exact rfl) (by exact rfl)) ?_
  refine FW.al (started75 G.toFnsE (.of (hx.wf hr.wf)) ((hs.ext hx).log []) kerf (by omega) (bl := []) (m := 0) .nil (by omega)) (fun _ _ _ q => q) ?_
  rintro _ h1 hx3 ⟨p, rfl⟩
  rw [startE_nil]
  have hN : h.next + 2 ≤ h1.next := hx3.next
  have g1 : h1.get h.next = some (.cells [.slice a l.length c, .int .i64 kerf] true 1) := by rw [hx3.old _ (by (simp only [z1, z2]; omega))]; (simp (disch := first | omega | (simp only [z1, z2]; omega)) only [z3, z4, z5, z6, z7, z1, z2, *]; exact rfl)
  have g3 : h1.get (h.next + 1) = some (.cells [.slice none 0 0, .int .i64 0] true 1) := by rw [hx3.old _ (by (simp only [z1, z2]; omega))]; (simp (disch := first | omega | (simp only [z1, z2]; omega) | (simp only [z1, z2]; done) | fail) only [z8, z4, z5, z9, z7, z1, z2, *]; done)
  have w1 : WF h1 := hx3.wf (hx.wf hr.wf)
  have hx13 : Ext h h1 := hx.trans hx3
  unfold orErr
  by_cases ha : chk kerf l = 0
  · simp only [if_pos ha]
    rw [ha]
    refine wO_val (a_mov (by exact rfl)) ?_; refine wO_val (a_extract (by exact rfl) (by exact rfl)) ?_; refine wO_val (a_extract (by exact rfl) (by exact rfl)) ?_; refine wO_val (a_mov (by exact rfl)) ?_; refine wO_val (a_mov (by exact rfl)) ?_; refine wO_nil ?_; refine kR_k (by simp only [keepE, dstE, geT, paramsE, cond_true, cond_false, Nat.beq]; exact rfl) ?_; refine kS_n ?_; refine wE_seq ?_
    refine wE_region ?_; refine wO_val (a_mov (by exact rfl)) ?_; refine wO_val (a_num (by exact rfl) (by exact rfl) (by exact m_neqF (by omega))) ?_; refine wO_nil ?_; refine kR_k (by simp only [keepE, dstE, geT, paramsE, cond_true, cond_false, Nat.beq]; exact rfl) ?_; refine kS_n ?_; refine wE_false (by exact rfl) ?_; refine wE_skip ?_; refine kS_n ?_; refine wE_seq ?_; refine wE_region ?_
    refine wO_val (a_faddr (by exact rfl)) ?_; refine wO_val (a_load (by exact rfl) (by assumption) (by exact rfl)) ?_
    refine wO_call (a_call (by exact rfl) (by exact rfl) (by exact rfl) (by exact rfl)) ?_
    refine FW.al (clone96 G.toFnsE (.of w1) ((hs.ext hx13).log []) (by omega)) (fun _ _ _ q => q.log _) ?_
    rintro v2 h2 hx4 hq
    have hN4 : h1.next ≤ h2.next := hx4.next
    have k1 : h2.get h.next = some (.cells [.slice a l.length c, .int .i64 kerf] true 1) := by rw [hx4.old _ (by omega)]; assumption
    have k3 : h2.get (h.next + 1) = some (.cells [.slice none 0 0, .int .i64 0] true 1) := by rw [hx4.old _ (by omega)]; assumption
    clear g1 g3
    have hx14 := hx13.trans hx4
    cases hq with
    | nil =>
      refine wO_val (a_faddr (by exact rfl)) ?_; refine wO_val (a_store (by exact rfl) (by exact rfl) (by assumption) (by exact rfl) (by exact rfl)) ?_; refine wO_nil ?_; refine kR_k (by simp only [keepE, dstE, geT, paramsE, cond_true, cond_false, Nat.beq]; exact rfl) ?_; refine kS_n ?_; refine wE_seq ?_; refine wE_seq ?_; refine wE_region ?_; refine wO_val (a_faddr (by exact rfl)) ?_
      refine wO_val (a_load (by exact rfl) (by (simp (disch := first | omega | (simp only [z1, z2]; omega)) only [z3, z4, z5, z6, z7, z1, z2, *]; exact rfl)) (by exact rfl)) ?_; refine wO_val (a_len1 (by exact rfl)) ?_; refine wO_val (a_mov (by exact rfl)) ?_; refine wO_nil ?_
      refine kR_k (by simp only [keepE, dstE, geT, paramsE, cond_true, cond_false, Nat.beq]; exact rfl) ?_; refine kS_n ?_; refine wE_block ?_
      refine wE_loop (fun k e ds h' => e = [(1, .pointer (some ⟨h.next, 0, none⟩)), (2, .pointer (some ⟨h.next + 1, 0, none⟩)), (22, .slice none 0 0), (23, .int .i64 (0 : Nat)), (24, .int .i64 (0 : Nat))] ∧ ds = [] ∧ h' = h2.wr h.next h.next (.cells [.slice none 0 0, .int .i64 kerf] true 1)) (k := 0) ⟨rfl, rfl, rfl⟩ ?_
      rintro _ _ _ _ ⟨rfl, rfl, rfl⟩
      refine wE_seq ?_; refine wE_region ?_; refine wO_val (a_num (by exact rfl) (by exact rfl) (by exact m_geqF (by omega))) ?_; refine wO_nil ?_; refine kR_k (by simp only [keepE, dstE, geT, paramsE, cond_true, cond_false, Nat.beq]; exact rfl) ?_; refine kS_n ?_; refine wE_seq ?_; refine wE_false (by exact rfl) ?_; refine wE_exit ?_; refine kS_e ?_; refine kS_e ?_; refine kB_e ?_; refine kS_n ?_
      refine wE_seq ?_; refine wE_region ?_; refine wO_val (a_loadN (by exact rfl) (by (simp (disch := first | omega | (simp only [z1, z2]; omega)) only [z3, z4, z5, z6, z7, z1, z2, *]; exact rfl)) (by exact rfl) (by exact rfl)) ?_
      refine wO_val (a_store (by exact rfl) (by exact rfl) (by (simp (disch := first | omega | (simp only [z1, z2]; omega)) only [z3, z4, z5, z6, z7, z1, z2, *]; exact rfl)) (by exact rfl) (by exact rfl)) ?_; refine wO_val (a_mov (by exact rfl)) ?_; refine wO_nil ?_
      refine kR_k (by simp only [keepE, dstE, geT, paramsE, cond_true, cond_false, Nat.beq]; exact rfl) ?_; refine kS_n ?_; refine wE_ret ?_
      refine endA_ret (vs := [.agg (List.toArray [.slice none 0 0, .int .i64 kerf]), .int .i64 0]) ((Heap.log_wr_new (Nat.le_succ _)).trans ((Heap.log_wr_new (Nat.le_refl _)).trans (hx14.log.trans hr.log))) ?_ ?_
      · exact res_cells (b := h.next + 1) rfl (by (simp (disch := first | omega | (simp only [z1, z2]; omega)) only [z3, z4, z5, z6, z7, z1, z2, *]; exact rfl)) rfl rfl (res_slot rfl res_nil)
      · exact SawQ.ret .nil
    | @empty b2 q1 q2 q3 =>
      refine wO_val (a_faddr (by exact rfl)) ?_; refine wO_val (a_store (by exact rfl) (by exact rfl) (by assumption) (by exact rfl) (by exact rfl)) ?_; refine wO_nil ?_; refine kR_k (by simp only [keepE, dstE, geT, paramsE, cond_true, cond_false, Nat.beq]; exact rfl) ?_; refine kS_n ?_; refine wE_seq ?_; refine wE_seq ?_; refine wE_region ?_; refine wO_val (a_faddr (by exact rfl)) ?_
      refine wO_val (a_load (by exact rfl) (by (simp (disch := first | omega | (simp only [z1, z2]; omega)) only [z3, z4, z5, z6, z7, z1, z2, *]; exact rfl)) (by exact rfl)) ?_; refine wO_val (a_len1 (by exact rfl)) ?_; refine wO_val (a_mov (by exact rfl)) ?_; refine wO_nil ?_
      refine kR_k (by simp only [keepE, dstE, geT, paramsE, cond_true, cond_false, Nat.beq]; exact rfl) ?_; refine kS_n ?_; refine wE_block ?_
      refine wE_loop (fun k e ds h' => e = [(1, .pointer (some ⟨h.next, 0, none⟩)), (2, .pointer (some ⟨h.next + 1, 0, none⟩)), (22, .slice (some ⟨b2, 0, none⟩) 0 0), (23, .int .i64 (0 : Nat)), (24, .int .i64 (0 : Nat))] ∧ ds = [] ∧ h' = h2.wr h.next h.next (.cells [.slice (some ⟨b2, 0, none⟩) 0 0, .int .i64 kerf] true 1)) (k := 0) ⟨rfl, rfl, rfl⟩ ?_
      rintro _ _ _ _ ⟨rfl, rfl, rfl⟩
      refine wE_seq ?_; refine wE_region ?_; refine wO_val (a_num (by exact rfl) (by exact rfl) (by exact m_geqF (by omega))) ?_; refine wO_nil ?_; refine kR_k (by simp only [keepE, dstE, geT, paramsE, cond_true, cond_false, Nat.beq]; exact rfl) ?_; refine kS_n ?_; refine wE_seq ?_; refine wE_false (by exact rfl) ?_; refine wE_exit ?_; refine kS_e ?_; refine kS_e ?_; refine kB_e ?_; refine kS_n ?_
      refine wE_seq ?_; refine wE_region ?_; refine wO_val (a_loadN (by exact rfl) (by (simp (disch := first | omega | (simp only [z1, z2]; omega)) only [z3, z4, z5, z6, z7, z1, z2, *]; exact rfl)) (by exact rfl) (by exact rfl)) ?_
      refine wO_val (a_store (by exact rfl) (by exact rfl) (by (simp (disch := first | omega | (simp only [z1, z2]; omega)) only [z3, z4, z5, z6, z7, z1, z2, *]; exact rfl)) (by exact rfl) (by exact rfl)) ?_; refine wO_val (a_mov (by exact rfl)) ?_; refine wO_nil ?_
      refine kR_k (by simp only [keepE, dstE, geT, paramsE, cond_true, cond_false, Nat.beq]; exact rfl) ?_; refine kS_n ?_; refine wE_ret ?_
      have q1' : h1.next ≤ b2 := q1
      refine endA_ret (vs := [.agg (List.toArray [.slice (some ⟨b2, 0, none⟩) 0 0, .int .i64 kerf]), .int .i64 0]) ((Heap.log_wr_new (Nat.le_succ _)).trans ((Heap.log_wr_new (Nat.le_refl _)).trans (hx14.log.trans hr.log))) ?_ ?_
      · exact res_cells (b := h.next + 1) rfl (by (simp (disch := first | omega | (simp only [z1, z2]; omega)) only [z3, z4, z5, z6, z7, z1, z2, *]; exact rfl)) rfl rfl (res_slot rfl res_nil)
      · exact SawQ.ret (.mem ⟨q2, ⟨[], true, 5, by (simp (disch := first | omega | (simp only [z1, z2]; omega)) only [z3, z4, z5, z6, z7, z1, z2, *]; done), rfl⟩, rfl⟩ (Nat.le_refl _))
    | @full b2 n2 _ q1 q2 q3 q4 q5 =>
      subst q4
      have q1' : h1.next ≤ b2 := q1
      have nl : ∀ i, (tn i l).length = l.length := fun i => tn_len i l
      refine wO_val (a_faddr (by exact rfl)) ?_; refine wO_val (a_store (by exact rfl) (by exact rfl) (by assumption) (by exact rfl) (by exact rfl)) ?_; refine wO_nil ?_; refine kR_k (by simp only [keepE, dstE, geT, paramsE, cond_true, cond_false, Nat.beq]; exact rfl) ?_; refine kS_n ?_; refine wE_seq ?_; refine wE_seq ?_; refine wE_region ?_; refine wO_val (a_faddr (by exact rfl)) ?_
      refine wO_val (a_load (by exact rfl) (by (simp (disch := first | omega | (simp only [z1, z2]; omega)) only [z3, z4, z5, z6, z7, z1, z2, *]; exact rfl)) (by exact rfl)) ?_; refine wO_val (a_len1 (by exact rfl)) ?_; refine wO_val (a_mov (by exact rfl)) ?_; refine wO_nil ?_
      refine kR_k (by simp only [keepE, dstE, geT, paramsE, cond_true, cond_false, Nat.beq]; exact rfl) ?_; refine kS_n ?_; refine wE_block ?_
      refine wE_loop (fun k e ds h' => ∃ i : Nat, i ≤ l.length ∧ k = l.length - i ∧ e = [(1, .pointer (some ⟨h.next, 0, none⟩)), (2, .pointer (some ⟨h.next + 1, 0, none⟩)), (22, .slice (some ⟨b2, 0, none⟩) l.length UNK), (23, .int .i64 l.length), (24, .int .i64 i)] ∧ ds = [] ∧ Ext h h' ∧
          h2.next ≤ h'.next ∧ h'.get h.next = some (.cells [.slice (some ⟨b2, 0, none⟩) l.length UNK, .int .i64 kerf] true 1) ∧ h'.get (h.next + 1) = some (.cells [.slice none 0 0, .int .i64 0] true 1) ∧ h'.get b2 = some (.cells (kcs (tn i l)) true 5))
        ⟨0, Nat.zero_le _, rfl, rfl, rfl, hx14.wr (Nat.le_refl _) (Nat.le_refl _), Nat.le_refl _, by (simp (disch := first | omega | (simp only [z1, z2]; omega)) only [z3, z4, z5, z6, z7, z1, z2, *]; exact rfl), by (simp (disch := first | omega | (simp only [z1, z2]; omega)) only [z3, z4, z5, z6, z7, z1, z2, *]; done), by (simp (disch := first | omega | (simp only [z1, z2]; omega)) only [z3, z4, z5, z6, z7, z1, z2, *]; exact rfl)⟩ ?_
      rintro k e ds hi ⟨i, hin, rfl, rfl, rfl, hxi, hnx, m1, m2, m3⟩
      by_cases hlt : i < l.length
      · obtain ⟨x, hxl⟩ : ∃ x, (tn i l)[i]? = some x := ⟨(tn i l)[i]'(by rw [nl]; exact hlt), List.getElem?_eq_getElem _⟩
        have s0 : SliceAt hi b2 0 l.length 5 (kcs (tn i l)) := ⟨by omega, ⟨_, _, _, m3, by rw [ltake_eq, ldrop_eq, List.drop_zero, List.take_of_length_le (by rw [kcs_length, nl]; omega)]⟩, by rw [kcs_length, nl]⟩
        obtain ⟨vs, own, t, g5, g6⟩ := slice_elem s0 hxl
        rw [m3] at g5
        obtain ⟨rfl, rfl, rfl⟩ : kcs (tn i l) = vs ∧ true = own ∧ 5 = t := by cases g5; exact ⟨rfl, rfl, rfl⟩
        clear g5
        refine wE_seq ?_; refine wE_region ?_; refine wO_val (a_num (by exact rfl) (by exact rfl) (by exact m_geqT (by omega))) ?_; refine wO_nil ?_; refine kR_k (by simp only [keepE, dstE, geT, paramsE, cond_true, cond_false, Nat.beq]; exact rfl) ?_; refine kS_n ?_; refine wE_seq ?_; refine wE_true (by exact rfl) ?_; refine wE_skip ?_; refine kS_n ?_; refine wE_seq ?_; refine wE_block ?_; refine wE_seq ?_
        refine wE_region ?_; refine wO_val (a_mov (by exact rfl)) ?_
        refine wO_val (a_iaddrS (by exact rfl) (by exact rfl) hlt) ?_
        refine wO_val (a_loadN (by exact rfl) m3 g6 (by exact rfl)) ?_
        refine wO_val a_new ?_; refine wO_val (a_mov (by exact rfl)) ?_; refine wO_val (a_store (by exact rfl) (by exact rfl) (by (simp (disch := first | omega | (simp only [z1, z2]; omega)) only [z3, z4, z5, z6, z7, z1, z2, *]; exact rfl)) (by exact rfl) (by exact rfl)) ?_; refine wO_nil ?_
        refine kR_k (by simp only [keepE, dstE, geT, paramsE, cond_true, cond_false, Nat.beq]; exact rfl) ?_; refine kS_n ?_; refine wE_draw ?_; refine wD_quiet rfl rfl rfl (by exact rfl) (by exact rfl) (by exact rfl) (a_faddr (by exact rfl)) ?_
        refine wD_quiet rfl rfl rfl (by exact rfl) (by exact rfl) (by exact rfl) (a_load (by exact rfl) (by (simp (disch := first | omega | (simp only [z1, z2]; omega)) only [z3, z4, z5, z6, z7, z1, z2, *]; exact rfl)) (by exact rfl)) ?_
        refine wD_quiet rfl rfl rfl (by exact rfl) (by exact rfl) (by exact rfl) (a_mov (by exact rfl)) ?_; refine wD_quiet rfl rfl rfl (by exact rfl) (by exact rfl) (by exact rfl) (a_faddr (by exact rfl)) ?_
        refine wD_quiet rfl rfl rfl (by exact rfl) (by exact rfl) (by exact rfl) (a_load (by exact rfl) (by (simp (disch := first | omega | (simp only [z1, z2]; omega)) only [z3, z4, z5, z6, z7, z1, z2, *]; exact rfl)) (by exact rfl)) ?_
        refine wD_quiet rfl rfl rfl (by exact rfl) (by exact rfl) (by exact rfl) (a_mov (by exact rfl)) ?_; refine wD_quiet rfl rfl rfl (by exact rfl) (by exact rfl) (by exact rfl) (a_faddr (by exact rfl)) ?_
        refine wD_quiet rfl rfl rfl (by exact rfl) (by exact rfl) (by exact rfl) (a_load (by exact rfl) (by (simp (disch := first | omega | (simp only [z1, z2]; omega)) only [z3, z4, z5, z6, z7, z1, z2, *]; exact rfl)) (by exact rfl)) ?_
        refine wD_quiet rfl rfl rfl (by exact rfl) (by exact rfl) (by exact rfl) (a_faddr (by exact rfl)) ?_
        refine wD_quiet rfl rfl rfl (by exact rfl) (by exact rfl) (by exact rfl) (a_load (by exact rfl) (by (simp (disch := first | omega | (simp only [z1, z2]; omega)) only [z3, z4, z5, z6, z7, z1, z2, *]; exact rfl)) (by exact rfl)) ?_
        refine wD_quiet rfl rfl rfl (by exact rfl) (by exact rfl) (by exact rfl) (a_iaddrS (by exact rfl) (by exact rfl) hlt) ?_
        refine wD_quiet rfl rfl rfl (by exact rfl) (by exact rfl) (by exact rfl) (a_faddr (by exact rfl)) ?_
        have hl1 := kcs_len1 (tn i l) (i * 5 + 1) (.int .i64 x.h)
        have c1 : (Nat.beq (llen (cellsOf (.int .i64 x.h))) 1 && Nat.ble (0 + i * 5 + 1 + 1) (llen (kcs (tn i l))) && ones (cellsOf (.int .i64 x.h))) = true := by
          have : Nat.ble (0 + i * 5 + 1 + 1) (llen (kcs (tn i l))) = true := by rw [ble_eq, llen_eq, kcs_length, nl]; simp; omega
          rw [this]; rfl
        have c2 : (Nat.beq (llen (cellsOf (.int .i64 x.w))) 1 && Nat.ble (0 + i * 5 + 2 + 1) (llen (lset (kcs (tn i l)) (i * 5 + 1) (.int .i64 x.h))) && ones (cellsOf (.int .i64 x.w))) = true := by
          have : Nat.ble (0 + i * 5 + 2 + 1) (llen (lset (kcs (tn i l)) (i * 5 + 1) (.int .i64 x.h))) = true := by rw [ble_eq, llen_eq, hl1, nl]; simp; omega
          rw [this]; rfl
        have d1 : lputs (kcs (tn i l)) (0 + i * 5 + 1) (cellsOf (.int .i64 x.h)) = lset (kcs (tn i l)) (i * 5 + 1) (.int .i64 x.h) := by rw [Nat.zero_add]; rfl
        have d2 : lputs (lset (kcs (tn i l)) (i * 5 + 1) (.int .i64 x.h)) (0 + i * 5 + 2) (cellsOf (.int .i64 x.w)) = kcs (tn (i + 1) l) := by rw [Nat.zero_add]; exact kcs_sw _ _ _ hxl
        refine wD_store (vs := kcs (tn i l)) (ws := lset (kcs (tn i l)) (i * 5 + 1) (.int .i64 x.h)) rfl rfl rfl (by exact rfl) (by exact rfl) (by exact rfl) (by (simp (disch := first | omega | (simp only [z1, z2]; omega)) only [z3, z4, z5, z6, z7, z1, z2, *]; exact rfl)) c1 d1 (by (simp only [z1, z2]; omega)) (by omega) (by apply ra_dropC rfl; apply ra_dropC rfl; apply ra_keepC rfl (rq_quiet rfl (a_load (by exact rfl) (by (simp (disch := first | omega | (simp only [z1, z2]; omega)) only [z3, z4, z5, z6, z7, z1, z2, *]; exact rfl)) (by exact rfl)) (by exact sv_int _ _)) rfl; apply ra_keepC rfl (rq_quiet rfl (a_faddr (by exact rfl)) (by exact sv_ptr _)) rfl; apply ra_dropC rfl; apply ra_dropC rfl; apply ra_keepC rfl (rq_quiet rfl (a_mov (by exact rfl)) (by exact sv_int _ _)) rfl; apply ra_keepC rfl (rq_quiet rfl (a_load (by exact rfl) (by (simp (disch := first | omega | (simp only [z1, z2]; omega)) only [z3, z4, z5, z6, z7, z1, z2, *]; exact rfl)) (by exact rfl)) (by exact sv_slice _ _ _)) rfl; apply ra_keepC rfl (rq_quiet rfl (a_faddr (by exact rfl)) (by exact sv_ptr _)) rfl; apply ra_dropC rfl; apply ra_dropC rfl; apply ra_dropC rfl; exact ra_nil) ?_
        skip
        refine wD_quiet rfl rfl rfl (by exact rfl) (by exact rfl) (by exact rfl) (a_iaddrS (by exact rfl) (by exact rfl) hlt) ?_
        refine wD_quiet rfl rfl rfl (by exact rfl) (by exact rfl) (by exact rfl) (a_faddr (by exact rfl)) ?_
        refine wD_store (vs := lset (kcs (tn i l)) (i * 5 + 1) (.int .i64 x.h)) (ws := kcs (tn (i + 1) l)) rfl rfl rfl (by exact rfl) (by exact rfl) (by exact rfl) (by (simp (disch := first | omega | (simp only [z1, z2]; omega)) only [z3, z4, z5, z6, z7, z1, z2, *]; exact rfl)) c2 d2 (by (simp only [z1, z2]; omega)) (by omega) (by apply ra_dropC rfl; apply ra_dropC rfl; apply ra_dropC rfl; apply ra_dropC rfl; apply ra_dropC rfl; apply ra_dropC rfl; apply ra_dropC rfl; exact ra_nil) ?_
        refine wD_nil ?_; refine kR_k (by simp only [keepE, dstE, geT, paramsE, cond_true, cond_false, Nat.beq]; exact rfl) ?_; refine kB_n ?_; refine kS_n ?_; refine wE_region ?_; refine wO_val (a_num (by exact rfl) (by exact rfl) (by exact m_inc (by omega))) ?_; refine wO_val (a_mov (by exact rfl)) ?_; refine wO_nil ?_
        refine kR_k (by simp only [keepE, dstE, geT, paramsE, cond_true, cond_false, Nat.beq]; exact rfl) ?_; refine kS_n ?_
        refine ⟨l.length - (i + 1), by omega, i + 1, by omega, rfl, rfl, rfl, ?_, ?_, ?_, ?_, ?_⟩
        · exact ((((hxi.push (.cells [.int .i64 0, .int .i64 0, .int .i64 0, .int .i64 0, .bool false] true 1)).wr (x := hi.next) (base := h.next) (o := .cells (kc x) true 1) hxi.next hxi.next).wr (x := b2) (base := h.next) (by omega) (by omega)).wr (x := b2) (base := h.next) (by omega) (by omega))
        · (simp only [z1, z2]; omega)
        · (simp (disch := first | omega | (simp only [z1, z2]; omega)) only [z3, z4, z5, z6, z7, z1, z2, *]; done)
        · (simp (disch := first | omega | (simp only [z1, z2]; omega)) only [z3, z4, z5, z6, z7, z1, z2, *]; done)
        · (simp (disch := first | omega | (simp only [z1, z2]; omega)) only [z3, z4, z5, z6, z7, z1, z2, *]; done)
      · obtain rfl : i = l.length := by omega
        refine wE_seq ?_; refine wE_region ?_; refine wO_val (a_num (by exact rfl) (by exact rfl) (by exact m_geqF (by omega))) ?_; refine wO_nil ?_; refine kR_k (by simp only [keepE, dstE, geT, paramsE, cond_true, cond_false, Nat.beq]; exact rfl) ?_; refine kS_n ?_; refine wE_seq ?_; refine wE_false (by exact rfl) ?_; refine wE_exit ?_; refine kS_e ?_; refine kS_e ?_; refine kB_e ?_; refine kS_n ?_
        refine wE_seq ?_; refine wE_region ?_; refine wO_val (a_loadN (by exact rfl) (by assumption) (by exact rfl) (by exact rfl)) ?_; refine wO_val (a_store (by exact rfl) (by exact rfl) (by assumption) (by exact rfl) (by exact rfl)) ?_; refine wO_val (a_mov (by exact rfl)) ?_; refine wO_nil ?_; refine kR_k (by simp only [keepE, dstE, geT, paramsE, cond_true, cond_false, Nat.beq]; exact rfl) ?_
        refine kS_n ?_; refine wE_ret ?_
        refine endA_ret (vs := [.agg (List.toArray [.slice (some ⟨b2, 0, none⟩) l.length UNK, .int .i64 kerf]), .int .i64 0]) ((Heap.log_wr_new (Nat.le_succ _)).trans (hxi.log.trans hr.log)) ?_ ?_
        · exact res_cells (b := h.next + 1) rfl (Heap.get_wr_new m2) rfl rfl (res_slot rfl res_nil)
        · refine SawQ.ret ?_
          rw [nl]
          exact full_slice (show b2 < hi.next by omega) ((z5 (show b2 ≠ h.next + 1 by omega)).trans m3) (nl _) (by omega)
  · simp only [if_neg ha]
    refine wO_val (a_mov (by exact rfl)) ?_; refine wO_val (a_extract (by exact rfl) (by exact rfl)) ?_; refine wO_val (a_extract (by exact rfl) (by exact rfl)) ?_; refine wO_val (a_mov (by exact rfl)) ?_; refine wO_val (a_mov (by exact rfl)) ?_; refine wO_nil ?_; refine kR_k (by simp only [keepE, dstE, geT, paramsE, cond_true, cond_false, Nat.beq]; exact rfl) ?_; refine kS_n ?_; refine wE_seq ?_
    refine wE_region ?_; refine wO_val (a_mov (by exact rfl)) ?_; refine wO_val (a_num (by exact rfl) (by exact rfl) (by exact m_neqT (by omega))) ?_; refine wO_nil ?_; refine kR_k (by simp only [keepE, dstE, geT, paramsE, cond_true, cond_false, Nat.beq]; exact rfl) ?_; refine kS_n ?_; refine wE_true (by exact rfl) ?_; refine wE_seq ?_; refine wE_region ?_; refine wO_val (a_build (by exact rfl)) ?_
    refine wO_val (a_mov (by exact rfl)) ?_; refine wO_val (a_store (by exact rfl) (by exact rfl) (by assumption) (by exact rfl) (by exact rfl)) ?_; refine wO_val (a_mov (by exact rfl)) ?_; refine wO_nil ?_; refine kR_k (by simp only [keepE, dstE, geT, paramsE, cond_true, cond_false, Nat.beq]; exact rfl) ?_; refine kS_n ?_; refine wE_ret ?_; refine kS_r ?_
    refine endA_ret (vs := [.agg (List.toArray [.slice none 0 0, .int .i64 0]), .int .i64 (chk kerf l)]) ((Heap.log_wr_new (Nat.le_succ _)).trans (hx13.log.trans hr.log)) ?_ ?_
    · exact res_cells (b := h.next + 1) rfl (Heap.get_wr_new g3) rfl rfl (res_slot rfl res_nil)
    · exact SawQ.ret .nil
end Go.A.Pk
end
section
set_option maxRecDepth 100000
namespace Go.A.Pk
variable {T : Nat → Option AFunc}
set_option maxHeartbeats 4000000 in
theorem turned65 (G : FnsI T) {h : Heap} (hr : Rdy h) {a : Option Addr} {n c : Nat} {l : List Kd} (hs : SliceOf h 5 (.slice a n c) n (kcs l)) (kerf : Int) (hn : n < 1000000) :
    Al T 65 [.agg #[.slice a n c, .int .i64 kerf]] h (orErr (chk kerf l) (SawQ 0 kerf (tn l.length l))) := by
  refine .of G.p G.f65 hr (orErr.gc SawQ.gc) ?_
  have hx : Ext h ((h.push (.cells [.slice a n c, .int .i64 kerf] true 1)).push (.cells [.slice none 0 0, .int .i64 0] true 1)) := ((Ext.refl h).push _).push _
  obtain rfl : n = l.length := by have := hs.len; rw [kcs_length] at this; omega
  refine wE_seq ?_; refine wE_region ?_; refine wO_val (a_box (by exact rfl) (by exact rfl)) ?_; refine wO_val a_new ?_; refine wO_val (a_mov (by exact rfl)) ?_; refine wO_nil ?_; refine kR_k (by simp only [keepE, dstE, geT, paramsE, cond_true, cond_false, Nat.beq]; exact rfl) ?_; refine kS_n ?_; refine wE_seq ?_; refine wE_region ?_
  refine wO_val (a_loadN (by exact rfl) (by (simp (disch := first | omega | (simp only [z1, z2]; omega)) only [z3, z4, z5, z6, z7, z1, z2, *]; exact rfl)) (by exact rfl) (by exact rfl)) ?_
  refine wO_call (a_call (by exact rfl) (by exact rfl) (by exact rfl) (by exact rfl)) ?_
  refine FW.pu (check67 G.toFnsB (.of (hx.wf hr.wf)) ((hs.ext hx).log []) kerf hn) ?_
  unfold orErr
  by_cases ha : chk kerf l = 0
  · simp only [if_pos ha]
    rw [ha]
    refine wO_val (a_mov (by exact rfl)) ?_; refine wO_nil ?_; refine kR_k (by simp only [keepE, dstE, geT, paramsE, cond_true, cond_false, Nat.beq]; exact rfl) ?_; refine kS_n ?_; refine wE_seq ?_; refine wE_seq ?_; refine wE_region ?_; refine wO_val (a_mov (by exact rfl)) ?_; refine wO_val (a_num (by exact rfl) (by exact rfl) (by exact m_neqF (by omega))) ?_; refine wO_nil ?_
    refine kR_k (by simp only [keepE, dstE, geT, paramsE, cond_true, cond_false, Nat.beq]; exact rfl) ?_; refine kS_n ?_; refine wE_false (by exact rfl) ?_; refine wE_skip ?_; refine kS_n ?_; refine wE_seq ?_; refine wE_region ?_
    refine wO_val (a_loadN (by exact rfl) (by (simp (disch := first | omega | (simp only [z1, z2]; omega)) only [z3, z4, z5, z6, z7, z1, z2, *]; exact rfl)) (by exact rfl) (by exact rfl)) ?_
    refine wO_call (a_call (by exact rfl) (by exact rfl) (by exact rfl) (by exact rfl)) ?_
    refine FW.al (copied115 G.toFnsG (.of (hx.wf hr.wf)) ((hs.ext hx).log []) kerf hn) (fun _ _ _ ⟨s, q1, q2⟩ => ⟨s, q1, q2.log _⟩) ?_
    rintro _ h2 hx4 ⟨s, rfl, hq⟩
    have hN4 : h.next + 2 ≤ h2.next := hx4.next
    have k3 : h2.get (h.next + 1) = some (.cells [.slice none 0 0, .int .i64 0] true 1) := by rw [hx4.old _ (by (simp only [z1, z2]; omega))]; (simp (disch := first | omega | (simp only [z1, z2]; omega) | (simp only [z1, z2]; done) | fail) only [z8, z4, z5, z9, z7, z1, z2, *]; done)
    have hx14 := hx.trans hx4
    cases hq with
    | nil =>
      refine wO_val a_new ?_; refine wO_val (a_store (by exact rfl) (by exact rfl) (by (simp (disch := first | omega | (simp only [z1, z2]; omega)) only [z3, z4, z5, z6, z7, z1, z2, *]; exact rfl)) (by exact rfl) (by exact rfl)) ?_; refine wO_nil ?_
      refine kR_k (by simp only [keepE, dstE, geT, paramsE, cond_true, cond_false, Nat.beq]; exact rfl) ?_; refine kS_n ?_; refine wE_seq ?_; refine wE_seq ?_; refine wE_region ?_; refine wO_val (a_mov (by exact rfl)) ?_; refine wO_nil ?_; refine kR_k (by simp only [keepE, dstE, geT, paramsE, cond_true, cond_false, Nat.beq]; exact rfl) ?_; refine kS_n ?_; refine wE_block ?_
      refine wE_loop (fun k e ds h' => e = [(2, .pointer (some ⟨h.next + 1, 0, none⟩)), (5, .pointer (some ⟨h2.next, 0, none⟩)), (6, .int .i64 (0 : Nat))] ∧ ds = [] ∧ h' = (h2.push (.cells [.slice none 0 0, .int .i64 0] true 1)).wr h.next h2.next (.cells [.slice none 0 0, .int .i64 kerf] true 1)) (k := 0) ⟨rfl, rfl, rfl⟩ ?_
      rintro _ _ _ _ ⟨rfl, rfl, rfl⟩
      refine wE_seq ?_; refine wE_seq ?_; refine wE_region ?_; refine wO_val (a_mov (by exact rfl)) ?_; refine wO_val (a_faddr (by exact rfl)) ?_
      refine wO_val (a_load (by exact rfl) (by (simp (disch := first | omega | (simp only [z1, z2]; omega)) only [z3, z4, z5, z6, z7, z1, z2, *]; exact rfl)) (by exact rfl)) ?_; refine wO_val (a_len1 (by exact rfl)) ?_
      refine wO_val (a_num (by exact rfl) (by exact rfl) (by exact m_geqF (by omega))) ?_; refine wO_nil ?_; refine kR_k (by simp only [keepE, dstE, geT, paramsE, cond_true, cond_false, Nat.beq]; exact rfl) ?_; refine kS_n ?_; refine wE_false (by exact rfl) ?_; refine wE_exit ?_; refine kS_e ?_; refine kS_e ?_; refine kB_e ?_; refine kS_n ?_; refine wE_seq ?_; refine wE_region ?_
      refine wO_val (a_loadN (by exact rfl) (by (simp (disch := first | omega | (simp only [z1, z2]; omega)) only [z3, z4, z5, z6, z7, z1, z2, *]; exact rfl)) (by exact rfl) (by exact rfl)) ?_
      refine wO_val (a_store (by exact rfl) (by exact rfl) (by (simp (disch := first | omega | (simp only [z1, z2]; omega)) only [z3, z4, z5, z6, z7, z1, z2, *]; exact rfl)) (by exact rfl) (by exact rfl)) ?_; refine wO_val (a_mov (by exact rfl)) ?_; refine wO_nil ?_
      refine kR_k (by simp only [keepE, dstE, geT, paramsE, cond_true, cond_false, Nat.beq]; exact rfl) ?_; refine kS_n ?_; refine wE_ret ?_
      refine endA_ret (vs := [.agg (List.toArray [.slice none 0 0, .int .i64 kerf]), .int .i64 0]) ((Heap.log_wr_new (Nat.le_succ _)).trans ((Heap.log_wr_new (show h.next ≤ h2.next by omega)).trans (hx14.log.trans hr.log))) ?_ ?_
      · exact res_cells (b := h.next + 1) rfl (by (simp (disch := first | omega | (simp only [z1, z2]; omega)) only [z3, z4, z5, z6, z7, z1, z2, *]; exact rfl)) rfl rfl (res_slot rfl res_nil)
      · exact SawQ.ret .nil
    | @empty b2 q1 q2 q3 =>
      refine wO_val a_new ?_; refine wO_val (a_store (by exact rfl) (by exact rfl) (by (simp (disch := first | omega | (simp only [z1, z2]; omega)) only [z3, z4, z5, z6, z7, z1, z2, *]; exact rfl)) (by exact rfl) (by exact rfl)) ?_; refine wO_nil ?_
      refine kR_k (by simp only [keepE, dstE, geT, paramsE, cond_true, cond_false, Nat.beq]; exact rfl) ?_; refine kS_n ?_; refine wE_seq ?_; refine wE_seq ?_; refine wE_region ?_; refine wO_val (a_mov (by exact rfl)) ?_; refine wO_nil ?_; refine kR_k (by simp only [keepE, dstE, geT, paramsE, cond_true, cond_false, Nat.beq]; exact rfl) ?_; refine kS_n ?_; refine wE_block ?_
      refine wE_loop (fun k e ds h' => e = [(2, .pointer (some ⟨h.next + 1, 0, none⟩)), (5, .pointer (some ⟨h2.next, 0, none⟩)), (6, .int .i64 (0 : Nat))] ∧ ds = [] ∧ h' = (h2.push (.cells [.slice none 0 0, .int .i64 0] true 1)).wr h.next h2.next (.cells [.slice (some ⟨b2, 0, none⟩) 0 0, .int .i64 kerf] true 1)) (k := 0) ⟨rfl, rfl, rfl⟩ ?_
      rintro _ _ _ _ ⟨rfl, rfl, rfl⟩
      refine wE_seq ?_; refine wE_seq ?_; refine wE_region ?_; refine wO_val (a_mov (by exact rfl)) ?_; refine wO_val (a_faddr (by exact rfl)) ?_
      refine wO_val (a_load (by exact rfl) (by (simp (disch := first | omega | (simp only [z1, z2]; omega)) only [z3, z4, z5, z6, z7, z1, z2, *]; exact rfl)) (by exact rfl)) ?_; refine wO_val (a_len1 (by exact rfl)) ?_
      refine wO_val (a_num (by exact rfl) (by exact rfl) (by exact m_geqF (by omega))) ?_; refine wO_nil ?_; refine kR_k (by simp only [keepE, dstE, geT, paramsE, cond_true, cond_false, Nat.beq]; exact rfl) ?_; refine kS_n ?_; refine wE_false (by exact rfl) ?_; refine wE_exit ?_; refine kS_e ?_; refine kS_e ?_; refine kB_e ?_; refine kS_n ?_; refine wE_seq ?_; refine wE_region ?_
      refine wO_val (a_loadN (by exact rfl) (by (simp (disch := first | omega | (simp only [z1, z2]; omega)) only [z3, z4, z5, z6, z7, z1, z2, *]; exact rfl)) (by exact rfl) (by exact rfl)) ?_
      refine wO_val (a_store (by exact rfl) (by exact rfl) (by (simp (disch := first | omega | (simp only [z1, z2]; omega)) only [z3, z4, z5, z6, z7, z1, z2, *]; exact rfl)) (by exact rfl) (by exact rfl)) ?_; refine wO_val (a_mov (by exact rfl)) ?_; refine wO_nil ?_
      refine kR_k (by simp only [keepE, dstE, geT, paramsE, cond_true, cond_false, Nat.beq]; exact rfl) ?_; refine kS_n ?_; refine wE_ret ?_
      have q1' : h.next + 2 ≤ b2 := q1
      refine endA_ret (vs := [.agg (List.toArray [.slice (some ⟨b2, 0, none⟩) 0 0, .int .i64 kerf]), .int .i64 0]) ((Heap.log_wr_new (Nat.le_succ _)).trans ((Heap.log_wr_new (show h.next ≤ h2.next by omega)).trans (hx14.log.trans hr.log))) ?_ ?_
      · exact res_cells (b := h.next + 1) rfl (by (simp (disch := first | omega | (simp only [z1, z2]; omega)) only [z3, z4, z5, z6, z7, z1, z2, *]; exact rfl)) rfl rfl (res_slot rfl res_nil)
      · exact SawQ.ret (.mem ⟨(show b2 < h2.next + 1 by omega), ⟨[], true, 5, by (simp (disch := first | omega | (simp only [z1, z2]; omega)) only [z3, z4, z5, z6, z7, z1, z2, *]; done), rfl⟩, rfl⟩ (Nat.le_refl _))
    | @full b2 n2 _ q1 q2 q3 q4 q5 =>
      subst q4
      have q1' : h.next + 2 ≤ b2 := q1
      have nl : ∀ i, (tn i l).length = l.length := fun i => tn_len i l
      refine wO_val a_new ?_; refine wO_val (a_store (by exact rfl) (by exact rfl) (by (simp (disch := first | omega | (simp only [z1, z2]; omega)) only [z3, z4, z5, z6, z7, z1, z2, *]; exact rfl)) (by exact rfl) (by exact rfl)) ?_; refine wO_nil ?_
      refine kR_k (by simp only [keepE, dstE, geT, paramsE, cond_true, cond_false, Nat.beq]; exact rfl) ?_; refine kS_n ?_; refine wE_seq ?_; refine wE_seq ?_; refine wE_region ?_; refine wO_val (a_mov (by exact rfl)) ?_; refine wO_nil ?_; refine kR_k (by simp only [keepE, dstE, geT, paramsE, cond_true, cond_false, Nat.beq]; exact rfl) ?_; refine kS_n ?_; refine wE_block ?_
      refine wE_loop (fun k e ds h' => ∃ i : Nat, i ≤ l.length ∧ k = l.length - i ∧ e = [(2, .pointer (some ⟨h.next + 1, 0, none⟩)), (5, .pointer (some ⟨h2.next, 0, none⟩)), (6, .int .i64 i)] ∧ ds = [] ∧ Ext h h' ∧
          h2.next + 1 ≤ h'.next ∧ h'.get h2.next = some (.cells [.slice (some ⟨b2, 0, none⟩) l.length UNK, .int .i64 kerf] true 1) ∧ h'.get (h.next + 1) = some (.cells [.slice none 0 0, .int .i64 0] true 1) ∧ h'.get b2 = some (.cells (kcs (tn i l)) true 5))
        ⟨0, Nat.zero_le _, rfl, rfl, rfl, (hx14.push _).wr (show h.next ≤ h2.next by omega) (show h.next ≤ h2.next by omega), Nat.le_refl _, by (simp (disch := first | omega | (simp only [z1, z2]; omega)) only [z3, z4, z5, z6, z7, z1, z2, *]; exact rfl), by (simp (disch := first | omega | (simp only [z1, z2]; omega)) only [z3, z4, z5, z6, z7, z1, z2, *]; done), by (simp (disch := first | omega | (simp only [z1, z2]; omega)) only [z3, z4, z5, z6, z7, z1, z2, *]; exact rfl)⟩ ?_
      rintro k e ds hi ⟨i, hin, rfl, rfl, rfl, hxi, hnx, m1, m2, m3⟩
      by_cases hlt : i < l.length
      · obtain ⟨x, hxl⟩ : ∃ x, (tn i l)[i]? = some x := ⟨(tn i l)[i]'(by rw [nl]; exact hlt), List.getElem?_eq_getElem _⟩
        have s0 : SliceAt hi b2 0 l.length 5 (kcs (tn i l)) := ⟨by omega, ⟨_, _, _, m3, by rw [ltake_eq, ldrop_eq, List.drop_zero, List.take_of_length_le (by rw [kcs_length, nl]; omega)]⟩, by rw [kcs_length, nl]⟩
        obtain ⟨vs, own, t, g5, g6⟩ := slice_elem s0 hxl
        rw [m3] at g5
        obtain ⟨rfl, rfl, rfl⟩ : kcs (tn i l) = vs ∧ true = own ∧ 5 = t := by cases g5; exact ⟨rfl, rfl, rfl⟩
        clear g5
        have hl1 := kcs_len1 (tn i l) (i * 5 + 1) (.int .i64 x.h)
        have c1 : (Nat.beq (llen (cellsOf (.int .i64 x.h))) 1 && Nat.ble (0 + i * 5 + 1 + 1) (llen (kcs (tn i l))) && ones (cellsOf (.int .i64 x.h))) = true := by
          have : Nat.ble (0 + i * 5 + 1 + 1) (llen (kcs (tn i l))) = true := by rw [ble_eq, llen_eq, kcs_length, nl]; simp; omega
          rw [this]; rfl
        have c2 : (Nat.beq (llen (cellsOf (.int .i64 x.w))) 1 && Nat.ble (0 + i * 5 + 2 + 1) (llen (lset (kcs (tn i l)) (i * 5 + 1) (.int .i64 x.h))) && ones (cellsOf (.int .i64 x.w))) = true := by
          have : Nat.ble (0 + i * 5 + 2 + 1) (llen (lset (kcs (tn i l)) (i * 5 + 1) (.int .i64 x.h))) = true := by rw [ble_eq, llen_eq, hl1, nl]; simp; omega
          rw [this]; rfl
        have d1 : lputs (kcs (tn i l)) (0 + i * 5 + 1) (cellsOf (.int .i64 x.h)) = lset (kcs (tn i l)) (i * 5 + 1) (.int .i64 x.h) := by rw [Nat.zero_add]; rfl
        have d2 : lputs (lset (kcs (tn i l)) (i * 5 + 1) (.int .i64 x.h)) (0 + i * 5 + 2) (cellsOf (.int .i64 x.w)) = kcs (tn (i + 1) l) := by rw [Nat.zero_add]; exact kcs_sw _ _ _ hxl
        clear hl1
        refine wE_seq ?_; refine wE_seq ?_; refine wE_region ?_; refine wO_val (a_mov (by exact rfl)) ?_; refine wO_val (a_faddr (by exact rfl)) ?_; refine wO_val (a_load (by exact rfl) (by assumption) (by exact rfl)) ?_; refine wO_val (a_len1 (by exact rfl)) ?_; refine wO_val (a_num (by exact rfl) (by exact rfl) (by exact m_geqT (by omega))) ?_; refine wO_nil ?_
        refine kR_k (by simp only [keepE, dstE, geT, paramsE, cond_true, cond_false, Nat.beq]; exact rfl) ?_; refine kS_n ?_; refine wE_true (by exact rfl) ?_; refine wE_skip ?_; refine kS_n ?_; refine wE_seq ?_; refine wE_block ?_; refine wE_seq ?_; refine wE_region ?_; refine wO_val (a_faddr (by exact rfl)) ?_; refine wO_val (a_load (by exact rfl) (by assumption) (by exact rfl)) ?_
        refine wO_val (a_mov (by exact rfl)) ?_
        refine wO_val (a_iaddrS (by exact rfl) (by exact rfl) hlt) ?_
        refine wO_val (a_loadN (by exact rfl) m3 g6 (by exact rfl)) ?_
        refine wO_val a_new ?_; refine wO_val (a_store (by exact rfl) (by exact rfl) (by (simp (disch := first | omega | (simp only [z1, z2]; omega)) only [z3, z4, z5, z6, z7, z1, z2, *]; exact rfl)) (by exact rfl) (by exact rfl)) ?_; refine wO_nil ?_
        refine kR_k (by simp only [keepE, dstE, geT, paramsE, cond_true, cond_false, Nat.beq]; exact rfl) ?_; refine kS_n ?_; refine wE_seq ?_; refine wE_region ?_; refine wO_val (a_faddr (by exact rfl)) ?_
        refine wO_val (a_load (by exact rfl) (by (simp (disch := first | omega | (simp only [z1, z2]; omega)) only [z3, z4, z5, z6, z7, z1, z2, *]; exact rfl)) (by exact rfl)) ?_; refine wO_val (a_mov (by exact rfl)) ?_; refine wO_val (a_faddr (by exact rfl)) ?_
        refine wO_val (a_load (by exact rfl) (by (simp (disch := first | omega | (simp only [z1, z2]; omega)) only [z3, z4, z5, z6, z7, z1, z2, *]; exact rfl)) (by exact rfl)) ?_
        refine wO_val (a_iaddrS (by exact rfl) (by exact rfl) hlt) ?_
        refine wO_val (a_faddr (by exact rfl)) ?_
        refine wO_val (a_store (vs := kcs (tn i l)) (ws := lset (kcs (tn i l)) (i * 5 + 1) (.int .i64 x.h)) (by exact rfl) (by exact rfl) (by (simp (disch := first | omega | (simp only [z1, z2]; omega)) only [z3, z4, z5, z6, z7, z1, z2, *]; exact rfl)) c1 d1) ?_
        refine wO_nil ?_; refine kR_k (by simp only [keepE, dstE, geT, paramsE, cond_true, cond_false, Nat.beq]; exact rfl) ?_; refine kS_n ?_; refine wE_region ?_; refine wO_val (a_faddr (by exact rfl)) ?_
        refine wO_val (a_load (by exact rfl) (by (simp (disch := first | omega | (simp only [z1, z2]; omega)) only [z3, z4, z5, z6, z7, z1, z2, *]; exact rfl)) (by exact rfl)) ?_; refine wO_val (a_mov (by exact rfl)) ?_; refine wO_val (a_faddr (by exact rfl)) ?_
        refine wO_val (a_load (by exact rfl) (by (simp (disch := first | omega | (simp only [z1, z2]; omega)) only [z3, z4, z5, z6, z7, z1, z2, *]; exact rfl)) (by exact rfl)) ?_
        refine wO_val (a_iaddrS (by exact rfl) (by exact rfl) hlt) ?_
        refine wO_val (a_faddr (by exact rfl)) ?_
        refine wO_val (a_store (vs := lset (kcs (tn i l)) (i * 5 + 1) (.int .i64 x.h)) (ws := kcs (tn (i + 1) l)) (by exact rfl) (by exact rfl) (by (simp (disch := first | omega | (simp only [z1, z2]; omega)) only [z3, z4, z5, z6, z7, z1, z2, *]; exact rfl)) c2 d2) ?_
        refine wO_nil ?_; refine kR_k (by simp only [keepE, dstE, geT, paramsE, cond_true, cond_false, Nat.beq]; exact rfl) ?_; refine kB_n ?_; refine kS_n ?_; refine wE_region ?_; refine wO_val (a_mov (by exact rfl)) ?_; refine wO_val (a_num (by exact rfl) (by exact rfl) (by exact m_inc (by omega))) ?_; refine wO_val (a_mov (by exact rfl)) ?_; refine wO_nil ?_
        refine kR_k (by simp only [keepE, dstE, geT, paramsE, cond_true, cond_false, Nat.beq]; exact rfl) ?_; refine kS_n ?_
        refine ⟨l.length - (i + 1), by omega, i + 1, by omega, rfl, rfl, rfl, ?_, ?_, ?_, ?_, ?_⟩
        · exact ((((hxi.push (.cells [.int .i64 0, .int .i64 0, .int .i64 0, .int .i64 0, .bool false] true 1)).wr (x := hi.next) (base := h.next) (o := .cells (kc x) true 1) hxi.next hxi.next).wr (x := b2) (base := h.next) (by omega) (by omega)).wr (x := b2) (base := h.next) (by omega) (by omega))
        · (simp only [z1, z2]; omega)
        · (simp (disch := first | omega | (simp only [z1, z2]; omega)) only [z3, z4, z5, z6, z7, z1, z2, *]; done)
        · (simp (disch := first | omega | (simp only [z1, z2]; omega)) only [z3, z4, z5, z6, z7, z1, z2, *]; done)
        · (simp (disch := first | omega | (simp only [z1, z2]; omega)) only [z3, z4, z5, z6, z7, z1, z2, *]; done)
      · obtain rfl : i = l.length := by omega
        refine wE_seq ?_; refine wE_seq ?_; refine wE_region ?_; refine wO_val (a_mov (by exact rfl)) ?_; refine wO_val (a_faddr (by exact rfl)) ?_; refine wO_val (a_load (by exact rfl) (by assumption) (by exact rfl)) ?_; refine wO_val (a_len1 (by exact rfl)) ?_; refine wO_val (a_num (by exact rfl) (by exact rfl) (by exact m_geqF (by omega))) ?_; refine wO_nil ?_
        refine kR_k (by simp only [keepE, dstE, geT, paramsE, cond_true, cond_false, Nat.beq]; exact rfl) ?_; refine kS_n ?_; refine wE_false (by exact rfl) ?_; refine wE_exit ?_; refine kS_e ?_; refine kS_e ?_; refine kB_e ?_; refine kS_n ?_; refine wE_seq ?_; refine wE_region ?_; refine wO_val (a_loadN (by exact rfl) (by assumption) (by exact rfl) (by exact rfl)) ?_
        refine wO_val (a_store (by exact rfl) (by exact rfl) (by assumption) (by exact rfl) (by exact rfl)) ?_; refine wO_val (a_mov (by exact rfl)) ?_; refine wO_nil ?_; refine kR_k (by simp only [keepE, dstE, geT, paramsE, cond_true, cond_false, Nat.beq]; exact rfl) ?_; refine kS_n ?_; refine wE_ret ?_
        refine endA_ret (vs := [.agg (List.toArray [.slice (some ⟨b2, 0, none⟩) l.length UNK, .int .i64 kerf]), .int .i64 0]) ((Heap.log_wr_new (Nat.le_succ _)).trans (hxi.log.trans hr.log)) ?_ ?_
        · exact res_cells (b := h.next + 1) rfl (Heap.get_wr_new m2) rfl rfl (res_slot rfl res_nil)
        · refine SawQ.ret ?_
          rw [nl]
          exact full_slice (show b2 < hi.next by omega) ((z5 (show b2 ≠ h.next + 1 by omega)).trans m3) (nl _) (by omega)
  · simp only [if_neg ha]
    refine wO_val (a_mov (by exact rfl)) ?_; refine wO_nil ?_; refine kR_k (by simp only [keepE, dstE, geT, paramsE, cond_true, cond_false, Nat.beq]; exact rfl) ?_; refine kS_n ?_; refine wE_seq ?_; refine wE_seq ?_; refine wE_region ?_; refine wO_val (a_mov (by exact rfl)) ?_; refine wO_val (a_num (by exact rfl) (by exact rfl) (by exact m_neqT (by omega))) ?_; refine wO_nil ?_
    refine kR_k (by simp only [keepE, dstE, geT, paramsE, cond_true, cond_false, Nat.beq]; exact rfl) ?_; refine kS_n ?_; refine wE_true (by exact rfl) ?_; refine wE_seq ?_; refine wE_region ?_; refine wO_val (a_build (by exact rfl)) ?_; refine wO_val (a_mov (by exact rfl)) ?_
    refine wO_val (a_store (by exact rfl) (by exact rfl) (by (simp (disch := first | omega | (simp only [z1, z2]; omega) | (simp only [z1, z2]; done) | fail) only [z8, z4, z5, z9, z7, z1, z2, *]; exact rfl)) (by exact rfl) (by exact rfl)) ?_
    refine wO_val (a_mov (by exact rfl)) ?_; refine wO_nil ?_; refine kR_k (by simp only [keepE, dstE, geT, paramsE, cond_true, cond_false, Nat.beq]; exact rfl) ?_; refine kS_n ?_; refine wE_ret ?_; refine kS_r ?_
    refine endA_ret (vs := [.agg (List.toArray [.slice none 0 0, .int .i64 0]), .int .i64 (chk kerf l)]) ((Heap.log_wr_new (Nat.le_succ _)).trans (hx.log.trans hr.log)) ?_ ?_
    · exact res_cells (b := h.next + 1) rfl (by (simp (disch := first | omega | (simp only [z1, z2]; omega) | (simp only [z1, z2]; done) | fail) only [z8, z4, z5, z9, z7, z1, z2, *]; exact rfl)) rfl rfl (res_slot rfl res_nil)
    · exact SawQ.ret .nil
end Go.A.Pk
end
section
set_option maxRecDepth 100000
namespace Go.A.Pk
variable {T : Nat → Option AFunc}
theorem a_aggSame {base : Nat} {h : Heap} {e : Env} {x y : Operand} {ls : List Leaf} {xs ys : Array Value} (hx : ev h e x = some (.agg xs)) (hy : ev h e y = some (.agg ys)) (hl : leavesEq ls xs.toList ys.toList = some true) : aop h base e (.bin (.agg true ls) x y) = some (.val (.bool false) h) := by
  simp only [aop, hx, hy, bindV, hl, cond_true, Bool.not_true]
theorem leaves_kc (k : Kd) : leavesEq [.i .i64, .i .i64, .i .i64, .i .i64, .b] (kc k) (kc k) = some true := by
  simp [kc, leavesEq, leafEq]
set_option maxHeartbeats 4000000 in
theorem same68 (hp : primAS T) (f : T 68 = some f68) {h : Heap} (hr : Rdy h) {a a' : Option Addr} {n c c' : Nat} {l : List Kd} (hs : SliceOf h 5 (.slice a n c) n (kcs l)) (hs' : SliceOf h 5 (.slice a' n c') n (kcs l)) (kerf : Int) (hn : n < 1000000) :
    Pu T 68 [.agg #[.slice a n c, .int .i64 kerf], .agg #[.slice a' n c', .int .i64 kerf]] h (.bool true) := by
  refine .of hp f hr rfl ?_
  obtain rfl : n = l.length := by have := hs.len; rw [kcs_length] at this; omega
  have hx : Ext h ((h.push (.cells [.slice a l.length c, .int .i64 kerf] true 1)).push (.cells [.slice a' l.length c', .int .i64 kerf] true 1)) := ((Ext.refl h).push _).push _
  refine wE_seq ?_; refine wE_region ?_; refine wO_val (a_box (by exact rfl) (by exact rfl)) ?_; refine wO_val (a_box (by exact rfl) (by exact rfl)) ?_; refine wO_val (a_mov (by exact rfl)) ?_; refine wO_nil ?_; refine kR_k (by simp only [keepE, dstE, geT, paramsE, cond_true, cond_false, Nat.beq]; exact rfl) ?_; refine kS_n ?_; refine wE_seq ?_; refine wE_seq ?_; refine wE_region ?_
  refine wO_val (a_faddr (by exact rfl)) ?_; refine wO_val (a_load (by exact rfl) (by (simp (disch := first | omega | (simp only [z1, z2]; omega)) only [z3, z4, z5, z6, z7, z1, z2, *]; exact rfl)) (by exact rfl)) ?_; refine wO_val (a_faddr (by exact rfl)) ?_
  refine wO_val (a_load (by exact rfl) (by (simp (disch := first | omega | (simp only [z1, z2]; omega) | (simp only [z1, z2]; done) | fail) only [z8, z4, z5, z9, z7, z1, z2, *]; exact rfl)) (by exact rfl)) ?_
  refine wO_val (a_num (by exact rfl) (by exact rfl) (by exact m_neqF (by omega))) ?_; refine wO_val (a_mov (by exact rfl)) ?_; refine wO_on (by exact rfl) ?_; refine wO_val (a_faddr (by exact rfl)) ?_; refine wO_on (by exact rfl) ?_
  refine wO_val (a_load (by exact rfl) (by (simp (disch := first | omega | (simp only [z1, z2]; omega)) only [z3, z4, z5, z6, z7, z1, z2, *]; exact rfl)) (by exact rfl)) ?_; refine wO_on (by exact rfl) ?_; refine wO_val (a_len1 (by exact rfl)) ?_; refine wO_on (by exact rfl) ?_
  refine wO_val (a_faddr (by exact rfl)) ?_; refine wO_on (by exact rfl) ?_
  refine wO_val (a_load (by exact rfl) (by (simp (disch := first | omega | (simp only [z1, z2]; omega) | (simp only [z1, z2]; done) | fail) only [z8, z4, z5, z9, z7, z1, z2, *]; exact rfl)) (by exact rfl)) ?_; refine wO_on (by exact rfl) ?_
  refine wO_val (a_len1 (by exact rfl)) ?_; refine wO_on (by exact rfl) ?_; refine wO_val (a_num (by exact rfl) (by exact rfl) (by exact m_neqF (by omega))) ?_; refine wO_val (a_pickF (by exact rfl) (by exact rfl)) ?_; refine wO_nil ?_; refine kR_k (by simp only [keepE, dstE, geT, paramsE, cond_true, cond_false, Nat.beq]; exact rfl) ?_; refine kS_n ?_; refine wE_false (by exact rfl) ?_
  refine wE_skip ?_; refine kS_n ?_; refine wE_seq ?_; refine wE_seq ?_; refine wE_region ?_; refine wO_val (a_mov (by exact rfl)) ?_; refine wO_nil ?_; refine kR_k (by simp only [keepE, dstE, geT, paramsE, cond_true, cond_false, Nat.beq]; exact rfl) ?_; refine kS_n ?_; refine wE_block ?_
  refine wE_loop (fun k e ds h' => ∃ i : Nat, i ≤ l.length ∧ k = l.length - i ∧ e = [(2, .pointer (some ⟨h.next, 0, none⟩)), (3, .pointer (some ⟨h.next + 1, 0, none⟩)), (5, .int .i64 i)] ∧ ds = [] ∧ h' = (h.push (.cells [.slice a l.length c, .int .i64 kerf] true 1)).push (.cells [.slice a' l.length c', .int .i64 kerf] true 1))
    ⟨0, Nat.zero_le _, rfl, rfl, rfl, rfl⟩ ?_
  rintro k e ds _ ⟨i, hin, rfl, rfl, rfl, rfl⟩
  by_cases hlt : i < l.length
  · obtain ⟨x, hxl⟩ : ∃ x, l[i]? = some x := ⟨l[i], List.getElem?_eq_getElem hlt⟩
    rcases (hs.ext hx).inv with ⟨_, _, h0, _⟩ | ⟨b, o, cap, hv, s, hcap⟩
    · omega
    · cases hv
      rcases (hs'.ext hx).inv with ⟨_, _, h0, _⟩ | ⟨b', o', cap', hv, s', hcap'⟩
      · omega
      · cases hv
        obtain ⟨vs, own, t, g1, g2⟩ := slice_elem s hxl
        obtain ⟨vs', own', t', g3, g4⟩ := slice_elem s' hxl
        refine wE_seq ?_; refine wE_seq ?_; refine wE_region ?_; refine wO_val (a_mov (by exact rfl)) ?_; refine wO_val (a_faddr (by exact rfl)) ?_
        refine wO_val (a_load (by exact rfl) (by (simp (disch := first | omega | (simp only [z1, z2]; omega)) only [z3, z4, z5, z6, z7, z1, z2, *]; exact rfl)) (by exact rfl)) ?_; refine wO_val (a_len1 (by exact rfl)) ?_
        refine wO_val (a_num (by exact rfl) (by exact rfl) (by exact m_geqT (by omega))) ?_; refine wO_nil ?_; refine kR_k (by simp only [keepE, dstE, geT, paramsE, cond_true, cond_false, Nat.beq]; exact rfl) ?_; refine kS_n ?_; refine wE_true (by exact rfl) ?_; refine wE_skip ?_; refine kS_n ?_; refine wE_seq ?_; refine wE_block ?_; refine wE_seq ?_; refine wE_draw ?_
        refine wD_quiet rfl rfl rfl (by exact rfl) (by exact rfl) (by exact rfl) (a_faddr (by exact rfl)) ?_
        refine wD_quiet rfl rfl rfl (by exact rfl) (by exact rfl) (by exact rfl) (a_load (by exact rfl) (by (simp (disch := first | omega | (simp only [z1, z2]; omega)) only [z3, z4, z5, z6, z7, z1, z2, *]; exact rfl)) (by exact rfl)) ?_
        refine wD_quiet rfl rfl rfl (by exact rfl) (by exact rfl) (by exact rfl) (a_mov (by exact rfl)) ?_
        refine wD_quiet rfl rfl rfl (by exact rfl) (by exact rfl) (by exact rfl) (a_iaddrS (by exact rfl) (by exact rfl) hlt) ?_
        refine wD_quiet rfl rfl rfl (by exact rfl) (by exact rfl) (by exact rfl) (a_loadN (by exact rfl) g1 g2 (by exact rfl)) ?_
        refine wD_quiet rfl rfl rfl (by exact rfl) (by exact rfl) (by exact rfl) (a_faddr (by exact rfl)) ?_
        refine wD_quiet rfl rfl rfl (by exact rfl) (by exact rfl) (by exact rfl) (a_load (by exact rfl) (by (simp (disch := first | omega | (simp only [z1, z2]; omega) | (simp only [z1, z2]; done) | fail) only [z8, z4, z5, z9, z7, z1, z2, *]; exact rfl)) (by exact rfl)) ?_
        refine wD_quiet rfl rfl rfl (by exact rfl) (by exact rfl) (by exact rfl) (a_mov (by exact rfl)) ?_
        refine wD_quiet rfl rfl rfl (by exact rfl) (by exact rfl) (by exact rfl) (a_iaddrS (by exact rfl) (by exact rfl) hlt) ?_
        refine wD_quiet rfl rfl rfl (by exact rfl) (by exact rfl) (by exact rfl) (a_loadN (by exact rfl) g3 g4 (by exact rfl)) ?_
        refine wD_quiet rfl rfl rfl (by exact rfl) (by exact rfl) (by exact rfl) (a_aggSame (by exact rfl) (by exact rfl) (leaves_kc x)) ?_
        refine wD_nil ?_; refine kR_k (by simp only [keepE, dstE, geT, paramsE, cond_true, cond_false, Nat.beq]; exact rfl) ?_; refine kS_n ?_; refine wE_false (by exact rfl) ?_; refine wE_skip ?_; refine kB_n ?_; refine kS_n ?_; refine wE_region ?_; refine wO_val (a_mov (by exact rfl)) ?_; refine wO_val (a_num (by exact rfl) (by exact rfl) (by exact m_inc (by omega))) ?_
        refine wO_val (a_mov (by exact rfl)) ?_; refine wO_nil ?_; refine kR_k (by simp only [keepE, dstE, geT, paramsE, cond_true, cond_false, Nat.beq]; exact rfl) ?_; refine kS_n ?_
        exact ⟨l.length - (i + 1), by omega, i + 1, by omega, rfl, rfl, rfl, rfl⟩
  · obtain rfl : i = l.length := by omega
    refine wE_seq ?_; refine wE_seq ?_; refine wE_region ?_; refine wO_val (a_mov (by exact rfl)) ?_; refine wO_val (a_faddr (by exact rfl)) ?_
    refine wO_val (a_load (by exact rfl) (by (simp (disch := first | omega | (simp only [z1, z2]; omega)) only [z3, z4, z5, z6, z7, z1, z2, *]; exact rfl)) (by exact rfl)) ?_; refine wO_val (a_len1 (by exact rfl)) ?_
    refine wO_val (a_num (by exact rfl) (by exact rfl) (by exact m_geqF (by omega))) ?_; refine wO_nil ?_; refine kR_k (by simp only [keepE, dstE, geT, paramsE, cond_true, cond_false, Nat.beq]; exact rfl) ?_; refine kS_n ?_; refine wE_false (by exact rfl) ?_; refine wE_exit ?_; refine kS_e ?_; refine kS_e ?_; refine kB_e ?_; refine kS_n ?_; refine wE_seq ?_; refine wE_region ?_
    refine wO_val (a_mov (by exact rfl)) ?_; refine wO_nil ?_; refine kR_k (by simp only [keepE, dstE, geT, paramsE, cond_true, cond_false, Nat.beq]; exact rfl) ?_; refine kS_n ?_; refine wE_ret ?_
    exact endP_ret hr.log rfl rfl
end Go.A.Pk
end
section
set_option maxRecDepth 100000
namespace Go.A.Pk
variable {T : Nat → Option AFunc}
theorem Al.mono {f : Nat} {args : List Value} {h : Heap} {Q Q' : Value → Heap → Prop} (H : Al T f args h Q) (hq : ∀ v h', Q v h' → Q' v h') : Al T f args h Q' :=
  CW.mono H fun r h' ⟨hx, v, hv, q⟩ => ⟨hx, v, hv, hq _ _ q⟩
theorem orErr_change {er kerf : Int} {l : List Kd} {v : Value} {h : Heap} (q : orErr er (changeQ kerf l) v h) : SawQ (if er = 0 then chk kerf l else er) (if er = 0 then (if chk kerf l = 0 then kerf else 0) else 0) (if er = 0 then (if chk kerf l = 0 then l else []) else []) v h := by
  unfold orErr at q
  split at q
  · rename_i h0; simp only [if_pos h0]; exact q
  · rename_i h0; simp only [if_neg h0]; exact q
theorem orErr_saw {er kerf : Int} {l : List Kd} {v : Value} {h : Heap} (q : orErr er (SawQ 0 kerf l) v h) : SawQ er (if er = 0 then kerf else 0) (if er = 0 then l else []) v h := by
  unfold orErr at q
  split at q
  · rename_i h0; simp only [if_pos h0]; rw [h0]; exact q
  · rename_i h0; simp only [if_neg h0]; exact q
structure Eight (T : Nat → Option AFunc) (kerf : Int) (l : List Kd) (i v : Int) (k : Kd) where
  e0 : Int
  k0 : Int
  l0 : List Kd
  n0 : l0.length < 1000
  e1 : Int
  k1 : Int
  l1 : List Kd
  n1 : l1.length < 1000
  e2 : Int
  k2 : Int
  l2 : List Kd
  n2 : l2.length < 1000
  e3 : Int
  k3 : Int
  l3 : List Kd
  n3 : l3.length < 1000
  c59 : ∀ {h : Heap} {a : Option Addr} {c : Nat}, Rdy h → SliceOf h 5 (.slice a l.length c) l.length (kcs l) → Al T 59 [.agg #[.slice a l.length c, .int .i64 kerf], .int .i64 i, .int .i64 v] h (SawQ e0 k0 l0)
  c62 : ∀ {h : Heap} {a : Option Addr} {c : Nat}, Rdy h → SliceOf h 5 (.slice a l.length c) l.length (kcs l) → Al T 62 [.agg #[.slice a l.length c, .int .i64 kerf], .int .i64 i, .int .i64 v] h (SawQ e0 k0 l0)
  c60 : ∀ {h : Heap} {a : Option Addr} {c : Nat}, Rdy h → SliceOf h 5 (.slice a l.length c) l.length (kcs l) → Al T 60 [.agg #[.slice a l.length c, .int .i64 kerf], .agg (kc k).toArray] h (SawQ e1 k1 l1)
  c63 : ∀ {h : Heap} {a : Option Addr} {c : Nat}, Rdy h → SliceOf h 5 (.slice a l.length c) l.length (kcs l) → Al T 63 [.agg #[.slice a l.length c, .int .i64 kerf], .agg (kc k).toArray] h (SawQ e1 k1 l1)
  c61 : ∀ {h : Heap} {a : Option Addr} {c : Nat}, Rdy h → SliceOf h 5 (.slice a l.length c) l.length (kcs l) → Al T 61 [.agg #[.slice a l.length c, .int .i64 kerf], .int .i64 i] h (SawQ e2 k2 l2)
  c64 : ∀ {h : Heap} {a : Option Addr} {c : Nat}, Rdy h → SliceOf h 5 (.slice a l.length c) l.length (kcs l) → Al T 64 [.agg #[.slice a l.length c, .int .i64 kerf], .int .i64 i] h (SawQ e2 k2 l2)
  c39 : ∀ {h : Heap} {a : Option Addr} {c : Nat}, Rdy h → SliceOf h 5 (.slice a l.length c) l.length (kcs l) → Al T 39 [.agg #[.slice a l.length c, .int .i64 kerf]] h (SawQ e3 k3 l3)
  c65 : ∀ {h : Heap} {a : Option Addr} {c : Nat}, Rdy h → SliceOf h 5 (.slice a l.length c) l.length (kcs l) → Al T 65 [.agg #[.slice a l.length c, .int .i64 kerf]] h (SawQ e3 k3 l3)
structure FnsL (T : Nat → Option AFunc) : Prop extends FnsA T, FnsB T, FnsC T where
  f15 : T 15 = some f15
  f68 : T 68 = some f68
  c19 : ∀ {h : Heap}, Rdy h → Pu T 19 [] h (.bool true)
set_option maxHeartbeats 8000000 in
theorem law15 (G : FnsL T) {h : Heap} (hr : Rdy h) {a : Option Addr} {n c : Nat} {l : List Kd} (hs : SliceOf h 5 (.slice a n c) n (kcs l)) (kerf : Int) (i v : Int) (k : Kd) (E : n ≤ 16 → Eight T kerf l i v k) :
    Pu T 15 [.agg #[.slice a n c, .int .i64 kerf], .int .i64 i, .int .i64 v, .agg (kc k).toArray] h (.bool true) := by
  refine .of G.toFnsA.p G.f15 hr rfl ?_
  have hx : Ext h ((h.push (.cells [.slice a n c, .int .i64 kerf] true 1)).push (.cells (kc k) true 1)) := ((Ext.refl h).push _).push _
  obtain rfl : n = l.length := by have := hs.len; rw [kcs_length] at this; omega
  refine wE_seq ?_; refine wE_region ?_; refine wO_val (a_box (by exact rfl) (by exact rfl)) ?_; refine wO_val (a_box (by exact rfl) (by exact rfl)) ?_; refine wO_val (a_mov (by exact rfl)) ?_; refine wO_nil ?_; refine kR_k (by simp only [keepE, dstE, geT, paramsE, cond_true, cond_false, Nat.beq]; exact rfl) ?_; refine kS_n ?_; refine wE_seq ?_; refine wE_seq ?_; refine wE_region ?_
  refine wO_val (a_loadN (by exact rfl) (by (simp (disch := first | omega | (simp only [z1, z2]; omega)) only [z3, z4, z5, z6, z7, z1, z2, *]; exact rfl)) (by exact rfl) (by exact rfl)) ?_
  refine wO_call (a_call (by exact rfl) (by exact rfl) (by exact rfl) (by exact rfl)) ?_
  refine FW.pu (few18 G.toFnsC (.of (hx.wf hr.wf)) kerf) ?_
  by_cases hfew : l.length ≤ 16
  · have E := E hfew
    have hn : l.length < 1000000 := by omega
    rw [decide_eq_true hfew]
    refine wO_val (a_not (by exact rfl)) ?_; refine wO_nil ?_; refine kR_k (by simp only [keepE, dstE, geT, paramsE, cond_true, cond_false, Nat.beq]; exact rfl) ?_; refine kS_n ?_; refine wE_false (by exact rfl) ?_; refine wE_skip ?_; refine kS_n ?_; refine wE_seq ?_; refine wE_region ?_
    refine wO_val (a_loadN (by exact rfl) (by (simp (disch := first | omega | (simp only [z1, z2]; omega)) only [z3, z4, z5, z6, z7, z1, z2, *]; exact rfl)) (by exact rfl) (by exact rfl)) ?_; refine wO_val (a_mov (by exact rfl)) ?_; refine wO_val (a_mov (by exact rfl)) ?_
    refine wO_call (a_call (by exact rfl) (by exact rfl) (by exact rfl) (by exact rfl)) ?_
    refine FW.al (E.c59 (.of (hx.wf hr.wf)) ((hs.ext hx).log [])) (fun v h m q => SawQ.log v h m q) ?_
    rintro _ h1 hx1 ⟨s1, rfl, q1⟩
    obtain ⟨a1, c1, rfl⟩ := q1.form
    have N1 : h.next + 2 ≤ h1.next := hx1.next
    have b0_1 : h1.get h.next = some (.cells [.slice a l.length c, .int .i64 kerf] true 1) := by rw [hx1.old _ (by (simp only [z1, z2]; omega))]; (simp (disch := first | omega | (simp only [z1, z2]; omega)) only [z3, z4, z5, z6, z7, z1, z2, *]; exact rfl)
    have b1_1 : h1.get (h.next + 1) = some (.cells (kc k) true 1) := by rw [hx1.old _ (by (simp only [z1, z2]; omega))]; (simp (disch := first | omega | (simp only [z1, z2]; omega) | (simp only [z1, z2]; done) | fail) only [z8, z4, z5, z9, z7, z1, z2, *]; exact rfl)
    have X1 := hx.trans hx1
    refine wO_val (a_mov (by exact rfl)) ?_; refine wO_val (a_extract (by exact rfl) (by exact rfl)) ?_; refine wO_val (a_extract (by exact rfl) (by exact rfl)) ?_; refine wO_val a_new ?_
    refine wO_val (a_store (by exact rfl) (by exact rfl) (by (simp (disch := first | omega | (simp only [z1, z2]; omega)) only [z3, z4, z5, z6, z7, z1, z2, *]; exact rfl)) (by exact rfl) (by exact rfl)) ?_; refine wO_val (a_mov (by exact rfl)) ?_; refine wO_nil ?_
    refine kR_k (by simp only [keepE, dstE, geT, paramsE, cond_true, cond_false, Nat.beq]; exact rfl) ?_; refine kS_n ?_; refine wE_seq ?_; refine wE_region ?_
    refine wO_val (a_loadN (by exact rfl) (by (simp (disch := first | omega | (simp only [z1, z2]; omega)) only [z3, z4, z5, z6, z7, z1, z2, *]; exact rfl)) (by exact rfl) (by exact rfl)) ?_; refine wO_val (a_mov (by exact rfl)) ?_; refine wO_val (a_mov (by exact rfl)) ?_
    have Z1 : Ext h1 ((h1.push (.cells [.slice none 0 0, .int .i64 0] true 1)).wr h.next h1.next (.cells [.slice a1 E.l0.length c1, .int .i64 E.k0] true 1)) := ((Ext.refl h1).push _).wr (Nat.le_refl _) (by omega)
    have Y1 := X1.trans Z1
    refine wO_call (a_call (by exact rfl) (by exact rfl) (by exact rfl) (by exact rfl)) ?_
    refine FW.al (E.c62 (.of (Y1.wf hr.wf)) ((hs.ext Y1).log [])) (fun v h m q => SawQ.log v h m q) ?_
    rintro _ h2 hx2 ⟨s2, rfl, q2⟩
    obtain ⟨a2, c2, rfl⟩ := q2.form
    have N2 : h1.next + 1 ≤ h2.next := hx2.next
    have b0_2 : h2.get h.next = some (.cells [.slice a l.length c, .int .i64 kerf] true 1) := by rw [hx2.old _ (by (simp only [z1, z2]; omega))]; (simp (disch := first | omega | (simp only [z1, z2]; omega)) only [z3, z4, z5, z6, z7, z1, z2, *]; done)
    have b1_2 : h2.get (h.next + 1) = some (.cells (kc k) true 1) := by rw [hx2.old _ (by (simp only [z1, z2]; omega))]; (simp (disch := first | omega | (simp only [z1, z2]; omega)) only [z3, z4, z5, z6, z7, z1, z2, *]; done)
    have r1_2 : h2.get h1.next = some (.cells [.slice a1 E.l0.length c1, .int .i64 E.k0] true 1) := by rw [hx2.old _ (by (simp only [z1, z2]; omega))]; (simp (disch := first | omega | (simp only [z1, z2]; omega)) only [z3, z4, z5, z6, z7, z1, z2, *]; exact rfl)
    have X2 := Y1.trans hx2
    have q1_2 := q1.ext (Z1.trans hx2)
    clear b0_1 b1_1
    refine wO_val (a_mov (by exact rfl)) ?_; refine wO_val (a_extract (by exact rfl) (by exact rfl)) ?_; refine wO_val (a_extract (by exact rfl) (by exact rfl)) ?_; refine wO_val a_new ?_
    refine wO_val (a_store (by exact rfl) (by exact rfl) (by (simp (disch := first | omega | (simp only [z1, z2]; omega)) only [z3, z4, z5, z6, z7, z1, z2, *]; exact rfl)) (by exact rfl) (by exact rfl)) ?_; refine wO_val (a_mov (by exact rfl)) ?_; refine wO_nil ?_
    refine kR_k (by simp only [keepE, dstE, geT, paramsE, cond_true, cond_false, Nat.beq]; exact rfl) ?_; refine kS_n ?_; refine wE_seq ?_; refine wE_region ?_
    refine wO_val (a_loadN (by exact rfl) (by (simp (disch := first | omega | (simp only [z1, z2]; omega)) only [z3, z4, z5, z6, z7, z1, z2, *]; exact rfl)) (by exact rfl) (by exact rfl)) ?_
    refine wO_val (a_loadN (by exact rfl) (by (simp (disch := first | omega | (simp only [z1, z2]; omega)) only [z3, z4, z5, z6, z7, z1, z2, *]; exact rfl)) (by exact rfl) (by exact rfl)) ?_
    have Z2 : Ext h2 ((h2.push (.cells [.slice none 0 0, .int .i64 0] true 1)).wr h.next h2.next (.cells [.slice a2 E.l0.length c2, .int .i64 E.k0] true 1)) := ((Ext.refl h2).push _).wr (Nat.le_refl _) (by omega)
    have Y2 := X2.trans Z2
    refine wO_call (a_call (by exact rfl) (by exact rfl) (by exact rfl) (by exact rfl)) ?_
    refine FW.al (E.c60 (.of (Y2.wf hr.wf)) ((hs.ext Y2).log [])) (fun v h m q => SawQ.log v h m q) ?_
    rintro _ h3 hx3 ⟨s3, rfl, q3⟩
    obtain ⟨a3, c3, rfl⟩ := q3.form
    have N3 : h2.next + 1 ≤ h3.next := hx3.next
    have b0_3 : h3.get h.next = some (.cells [.slice a l.length c, .int .i64 kerf] true 1) := by rw [hx3.old _ (by (simp only [z1, z2]; omega))]; (simp (disch := first | omega | (simp only [z1, z2]; omega)) only [z3, z4, z5, z6, z7, z1, z2, *]; done)
    have b1_3 : h3.get (h.next + 1) = some (.cells (kc k) true 1) := by rw [hx3.old _ (by (simp only [z1, z2]; omega))]; (simp (disch := first | omega | (simp only [z1, z2]; omega)) only [z3, z4, z5, z6, z7, z1, z2, *]; done)
    have r1_3 : h3.get h1.next = some (.cells [.slice a1 E.l0.length c1, .int .i64 E.k0] true 1) := by rw [hx3.old _ (by (simp only [z1, z2]; omega))]; (simp (disch := first | omega | (simp only [z1, z2]; omega)) only [z3, z4, z5, z6, z7, z1, z2, *]; done)
    have r2_3 : h3.get h2.next = some (.cells [.slice a2 E.l0.length c2, .int .i64 E.k0] true 1) := by rw [hx3.old _ (by (simp only [z1, z2]; omega))]; (simp (disch := first | omega | (simp only [z1, z2]; omega)) only [z3, z4, z5, z6, z7, z1, z2, *]; exact rfl)
    have X3 := Y2.trans hx3
    have q1_3 := q1_2.ext (Z2.trans hx3)
    have q2_3 := q2.ext (Z2.trans hx3)
    clear b0_2 b1_2 r1_2
    refine wO_val (a_mov (by exact rfl)) ?_; refine wO_val (a_extract (by exact rfl) (by exact rfl)) ?_; refine wO_val (a_extract (by exact rfl) (by exact rfl)) ?_; refine wO_val a_new ?_
    refine wO_val (a_store (by exact rfl) (by exact rfl) (by (simp (disch := first | omega | (simp only [z1, z2]; omega)) only [z3, z4, z5, z6, z7, z1, z2, *]; exact rfl)) (by exact rfl) (by exact rfl)) ?_; refine wO_val (a_mov (by exact rfl)) ?_; refine wO_nil ?_
    refine kR_k (by simp only [keepE, dstE, geT, paramsE, cond_true, cond_false, Nat.beq]; exact rfl) ?_; refine kS_n ?_; refine wE_seq ?_; refine wE_region ?_
    refine wO_val (a_loadN (by exact rfl) (by (simp (disch := first | omega | (simp only [z1, z2]; omega)) only [z3, z4, z5, z6, z7, z1, z2, *]; exact rfl)) (by exact rfl) (by exact rfl)) ?_
    refine wO_val (a_loadN (by exact rfl) (by (simp (disch := first | omega | (simp only [z1, z2]; omega)) only [z3, z4, z5, z6, z7, z1, z2, *]; exact rfl)) (by exact rfl) (by exact rfl)) ?_
    have Z3 : Ext h3 ((h3.push (.cells [.slice none 0 0, .int .i64 0] true 1)).wr h.next h3.next (.cells [.slice a3 E.l1.length c3, .int .i64 E.k1] true 1)) := ((Ext.refl h3).push _).wr (Nat.le_refl _) (by omega)
    have Y3 := X3.trans Z3
    refine wO_call (a_call (by exact rfl) (by exact rfl) (by exact rfl) (by exact rfl)) ?_
    refine FW.al (E.c63 (.of (Y3.wf hr.wf)) ((hs.ext Y3).log [])) (fun v h m q => SawQ.log v h m q) ?_
    rintro _ h4 hx4 ⟨s4, rfl, q4⟩
    obtain ⟨a4, c4, rfl⟩ := q4.form
    have N4 : h3.next + 1 ≤ h4.next := hx4.next
    have b0_4 : h4.get h.next = some (.cells [.slice a l.length c, .int .i64 kerf] true 1) := by rw [hx4.old _ (by (simp only [z1, z2]; omega))]; (simp (disch := first | omega | (simp only [z1, z2]; omega)) only [z3, z4, z5, z6, z7, z1, z2, *]; done)
    have b1_4 : h4.get (h.next + 1) = some (.cells (kc k) true 1) := by rw [hx4.old _ (by (simp only [z1, z2]; omega))]; (simp (disch := first | omega | (simp only [z1, z2]; omega)) only [z3, z4, z5, z6, z7, z1, z2, *]; done)
    have r1_4 : h4.get h1.next = some (.cells [.slice a1 E.l0.length c1, .int .i64 E.k0] true 1) := by rw [hx4.old _ (by (simp only [z1, z2]; omega))]; (simp (disch := first | omega | (simp only [z1, z2]; omega)) only [z3, z4, z5, z6, z7, z1, z2, *]; done)
    have r2_4 : h4.get h2.next = some (.cells [.slice a2 E.l0.length c2, .int .i64 E.k0] true 1) := by rw [hx4.old _ (by (simp only [z1, z2]; omega))]; (simp (disch := first | omega | (simp only [z1, z2]; omega)) only [z3, z4, z5, z6, z7, z1, z2, *]; done)
    have r3_4 : h4.get h3.next = some (.cells [.slice a3 E.l1.length c3, .int .i64 E.k1] true 1) := by rw [hx4.old _ (by (simp only [z1, z2]; omega))]; (simp (disch := first | omega | (simp only [z1, z2]; omega)) only [z3, z4, z5, z6, z7, z1, z2, *]; exact rfl)
    have X4 := Y3.trans hx4
    have q1_4 := q1_3.ext (Z3.trans hx4)
    have q2_4 := q2_3.ext (Z3.trans hx4)
    have q3_4 := q3.ext (Z3.trans hx4)
    clear b0_3 b1_3 r1_3 r2_3
    refine wO_val (a_mov (by exact rfl)) ?_; refine wO_val (a_extract (by exact rfl) (by exact rfl)) ?_; refine wO_val (a_extract (by exact rfl) (by exact rfl)) ?_; refine wO_val a_new ?_
    refine wO_val (a_store (by exact rfl) (by exact rfl) (by (simp (disch := first | omega | (simp only [z1, z2]; omega)) only [z3, z4, z5, z6, z7, z1, z2, *]; exact rfl)) (by exact rfl) (by exact rfl)) ?_; refine wO_val (a_mov (by exact rfl)) ?_; refine wO_nil ?_
    refine kR_k (by simp only [keepE, dstE, geT, paramsE, cond_true, cond_false, Nat.beq]; exact rfl) ?_; refine kS_n ?_; refine wE_seq ?_; refine wE_region ?_
    refine wO_val (a_loadN (by exact rfl) (by (simp (disch := first | omega | (simp only [z1, z2]; omega)) only [z3, z4, z5, z6, z7, z1, z2, *]; exact rfl)) (by exact rfl) (by exact rfl)) ?_; refine wO_val (a_mov (by exact rfl)) ?_
    have Z4 : Ext h4 ((h4.push (.cells [.slice none 0 0, .int .i64 0] true 1)).wr h.next h4.next (.cells [.slice a4 E.l1.length c4, .int .i64 E.k1] true 1)) := ((Ext.refl h4).push _).wr (Nat.le_refl _) (by omega)
    have Y4 := X4.trans Z4
    refine wO_call (a_call (by exact rfl) (by exact rfl) (by exact rfl) (by exact rfl)) ?_
    refine FW.al (E.c61 (.of (Y4.wf hr.wf)) ((hs.ext Y4).log [])) (fun v h m q => SawQ.log v h m q) ?_
    rintro _ h5 hx5 ⟨s5, rfl, q5⟩
    obtain ⟨a5, c5, rfl⟩ := q5.form
    have N5 : h4.next + 1 ≤ h5.next := hx5.next
    have b0_5 : h5.get h.next = some (.cells [.slice a l.length c, .int .i64 kerf] true 1) := by rw [hx5.old _ (by (simp only [z1, z2]; omega))]; (simp (disch := first | omega | (simp only [z1, z2]; omega)) only [z3, z4, z5, z6, z7, z1, z2, *]; done)
    have b1_5 : h5.get (h.next + 1) = some (.cells (kc k) true 1) := by rw [hx5.old _ (by (simp only [z1, z2]; omega))]; (simp (disch := first | omega | (simp only [z1, z2]; omega)) only [z3, z4, z5, z6, z7, z1, z2, *]; done)
    have r1_5 : h5.get h1.next = some (.cells [.slice a1 E.l0.length c1, .int .i64 E.k0] true 1) := by rw [hx5.old _ (by (simp only [z1, z2]; omega))]; (simp (disch := first | omega | (simp only [z1, z2]; omega)) only [z3, z4, z5, z6, z7, z1, z2, *]; done)
    have r2_5 : h5.get h2.next = some (.cells [.slice a2 E.l0.length c2, .int .i64 E.k0] true 1) := by rw [hx5.old _ (by (simp only [z1, z2]; omega))]; (simp (disch := first | omega | (simp only [z1, z2]; omega)) only [z3, z4, z5, z6, z7, z1, z2, *]; done)
    have r3_5 : h5.get h3.next = some (.cells [.slice a3 E.l1.length c3, .int .i64 E.k1] true 1) := by rw [hx5.old _ (by (simp only [z1, z2]; omega))]; (simp (disch := first | omega | (simp only [z1, z2]; omega)) only [z3, z4, z5, z6, z7, z1, z2, *]; done)
    have r4_5 : h5.get h4.next = some (.cells [.slice a4 E.l1.length c4, .int .i64 E.k1] true 1) := by rw [hx5.old _ (by (simp only [z1, z2]; omega))]; (simp (disch := first | omega | (simp only [z1, z2]; omega)) only [z3, z4, z5, z6, z7, z1, z2, *]; exact rfl)
    have X5 := Y4.trans hx5
    have q1_5 := q1_4.ext (Z4.trans hx5)
    have q2_5 := q2_4.ext (Z4.trans hx5)
    have q3_5 := q3_4.ext (Z4.trans hx5)
    have q4_5 := q4.ext (Z4.trans hx5)
    clear b0_4 b1_4 r1_4 r2_4 r3_4
    refine wO_val (a_mov (by exact rfl)) ?_; refine wO_val (a_extract (by exact rfl) (by exact rfl)) ?_; refine wO_val (a_extract (by exact rfl) (by exact rfl)) ?_; refine wO_val a_new ?_
    refine wO_val (a_store (by exact rfl) (by exact rfl) (by (simp (disch := first | omega | (simp only [z1, z2]; omega)) only [z3, z4, z5, z6, z7, z1, z2, *]; exact rfl)) (by exact rfl) (by exact rfl)) ?_; refine wO_val (a_mov (by exact rfl)) ?_; refine wO_nil ?_
    refine kR_k (by simp only [keepE, dstE, geT, paramsE, cond_true, cond_false, Nat.beq]; exact rfl) ?_; refine kS_n ?_; refine wE_seq ?_; refine wE_region ?_
    refine wO_val (a_loadN (by exact rfl) (by (simp (disch := first | omega | (simp only [z1, z2]; omega)) only [z3, z4, z5, z6, z7, z1, z2, *]; exact rfl)) (by exact rfl) (by exact rfl)) ?_; refine wO_val (a_mov (by exact rfl)) ?_
    have Z5 : Ext h5 ((h5.push (.cells [.slice none 0 0, .int .i64 0] true 1)).wr h.next h5.next (.cells [.slice a5 E.l2.length c5, .int .i64 E.k2] true 1)) := ((Ext.refl h5).push _).wr (Nat.le_refl _) (by omega)
    have Y5 := X5.trans Z5
    refine wO_call (a_call (by exact rfl) (by exact rfl) (by exact rfl) (by exact rfl)) ?_
    refine FW.al (E.c64 (.of (Y5.wf hr.wf)) ((hs.ext Y5).log [])) (fun v h m q => SawQ.log v h m q) ?_
    rintro _ h6 hx6 ⟨s6, rfl, q6⟩
    obtain ⟨a6, c6, rfl⟩ := q6.form
    have N6 : h5.next + 1 ≤ h6.next := hx6.next
    have b0_6 : h6.get h.next = some (.cells [.slice a l.length c, .int .i64 kerf] true 1) := by rw [hx6.old _ (by (simp only [z1, z2]; omega))]; (simp (disch := first | omega | (simp only [z1, z2]; omega)) only [z3, z4, z5, z6, z7, z1, z2, *]; done)
    have b1_6 : h6.get (h.next + 1) = some (.cells (kc k) true 1) := by rw [hx6.old _ (by (simp only [z1, z2]; omega))]; (simp (disch := first | omega | (simp only [z1, z2]; omega)) only [z3, z4, z5, z6, z7, z1, z2, *]; done)
    have r1_6 : h6.get h1.next = some (.cells [.slice a1 E.l0.length c1, .int .i64 E.k0] true 1) := by rw [hx6.old _ (by (simp only [z1, z2]; omega))]; (simp (disch := first | omega | (simp only [z1, z2]; omega)) only [z3, z4, z5, z6, z7, z1, z2, *]; done)
    have r2_6 : h6.get h2.next = some (.cells [.slice a2 E.l0.length c2, .int .i64 E.k0] true 1) := by rw [hx6.old _ (by (simp only [z1, z2]; omega))]; (simp (disch := first | omega | (simp only [z1, z2]; omega)) only [z3, z4, z5, z6, z7, z1, z2, *]; done)
    have r3_6 : h6.get h3.next = some (.cells [.slice a3 E.l1.length c3, .int .i64 E.k1] true 1) := by rw [hx6.old _ (by (simp only [z1, z2]; omega))]; (simp (disch := first | omega | (simp only [z1, z2]; omega)) only [z3, z4, z5, z6, z7, z1, z2, *]; done)
    have r4_6 : h6.get h4.next = some (.cells [.slice a4 E.l1.length c4, .int .i64 E.k1] true 1) := by rw [hx6.old _ (by (simp only [z1, z2]; omega))]; (simp (disch := first | omega | (simp only [z1, z2]; omega)) only [z3, z4, z5, z6, z7, z1, z2, *]; done)
    have r5_6 : h6.get h5.next = some (.cells [.slice a5 E.l2.length c5, .int .i64 E.k2] true 1) := by rw [hx6.old _ (by (simp only [z1, z2]; omega))]; (simp (disch := first | omega | (simp only [z1, z2]; omega)) only [z3, z4, z5, z6, z7, z1, z2, *]; exact rfl)
    have X6 := Y5.trans hx6
    have q1_6 := q1_5.ext (Z5.trans hx6)
    have q2_6 := q2_5.ext (Z5.trans hx6)
    have q3_6 := q3_5.ext (Z5.trans hx6)
    have q4_6 := q4_5.ext (Z5.trans hx6)
    have q5_6 := q5.ext (Z5.trans hx6)
    clear b0_5 b1_5 r1_5 r2_5 r3_5 r4_5
    refine wO_val (a_mov (by exact rfl)) ?_; refine wO_val (a_extract (by exact rfl) (by exact rfl)) ?_; refine wO_val (a_extract (by exact rfl) (by exact rfl)) ?_; refine wO_val a_new ?_
    refine wO_val (a_store (by exact rfl) (by exact rfl) (by (simp (disch := first | omega | (simp only [z1, z2]; omega)) only [z3, z4, z5, z6, z7, z1, z2, *]; exact rfl)) (by exact rfl) (by exact rfl)) ?_; refine wO_val (a_mov (by exact rfl)) ?_; refine wO_nil ?_
    refine kR_k (by simp only [keepE, dstE, geT, paramsE, cond_true, cond_false, Nat.beq]; exact rfl) ?_; refine kS_n ?_; refine wE_seq ?_; refine wE_region ?_
    refine wO_val (a_loadN (by exact rfl) (by (simp (disch := first | omega | (simp only [z1, z2]; omega)) only [z3, z4, z5, z6, z7, z1, z2, *]; exact rfl)) (by exact rfl) (by exact rfl)) ?_
    have Z6 : Ext h6 ((h6.push (.cells [.slice none 0 0, .int .i64 0] true 1)).wr h.next h6.next (.cells [.slice a6 E.l2.length c6, .int .i64 E.k2] true 1)) := ((Ext.refl h6).push _).wr (Nat.le_refl _) (by omega)
    have Y6 := X6.trans Z6
    refine wO_call (a_call (by exact rfl) (by exact rfl) (by exact rfl) (by exact rfl)) ?_
    refine FW.al (E.c39 (.of (Y6.wf hr.wf)) ((hs.ext Y6).log [])) (fun v h m q => SawQ.log v h m q) ?_
    rintro _ h7 hx7 ⟨s7, rfl, q7⟩
    obtain ⟨a7, c7, rfl⟩ := q7.form
    have N7 : h6.next + 1 ≤ h7.next := hx7.next
    have b0_7 : h7.get h.next = some (.cells [.slice a l.length c, .int .i64 kerf] true 1) := by rw [hx7.old _ (by (simp only [z1, z2]; omega))]; (simp (disch := first | omega | (simp only [z1, z2]; omega)) only [z3, z4, z5, z6, z7, z1, z2, *]; done)
    have b1_7 : h7.get (h.next + 1) = some (.cells (kc k) true 1) := by rw [hx7.old _ (by (simp only [z1, z2]; omega))]; (simp (disch := first | omega | (simp only [z1, z2]; omega)) only [z3, z4, z5, z6, z7, z1, z2, *]; done)
    have r1_7 : h7.get h1.next = some (.cells [.slice a1 E.l0.length c1, .int .i64 E.k0] true 1) := by rw [hx7.old _ (by (simp only [z1, z2]; omega))]; (simp (disch := first | omega | (simp only [z1, z2]; omega)) only [z3, z4, z5, z6, z7, z1, z2, *]; done)
    have r2_7 : h7.get h2.next = some (.cells [.slice a2 E.l0.length c2, .int .i64 E.k0] true 1) := by rw [hx7.old _ (by (simp only [z1, z2]; omega))]; (simp (disch := first | omega | (simp only [z1, z2]; omega)) only [z3, z4, z5, z6, z7, z1, z2, *]; done)
    have r3_7 : h7.get h3.next = some (.cells [.slice a3 E.l1.length c3, .int .i64 E.k1] true 1) := by rw [hx7.old _ (by (simp only [z1, z2]; omega))]; (simp (disch := first | omega | (simp only [z1, z2]; omega)) only [z3, z4, z5, z6, z7, z1, z2, *]; done)
    have r4_7 : h7.get h4.next = some (.cells [.slice a4 E.l1.length c4, .int .i64 E.k1] true 1) := by rw [hx7.old _ (by (simp only [z1, z2]; omega))]; (simp (disch := first | omega | (simp only [z1, z2]; omega)) only [z3, z4, z5, z6, z7, z1, z2, *]; done)
    have r5_7 : h7.get h5.next = some (.cells [.slice a5 E.l2.length c5, .int .i64 E.k2] true 1) := by rw [hx7.old _ (by (simp only [z1, z2]; omega))]; (simp (disch := first | omega | (simp only [z1, z2]; omega)) only [z3, z4, z5, z6, z7, z1, z2, *]; done)
    have r6_7 : h7.get h6.next = some (.cells [.slice a6 E.l2.length c6, .int .i64 E.k2] true 1) := by rw [hx7.old _ (by (simp only [z1, z2]; omega))]; (simp (disch := first | omega | (simp only [z1, z2]; omega)) only [z3, z4, z5, z6, z7, z1, z2, *]; exact rfl)
    have X7 := Y6.trans hx7
    have q1_7 := q1_6.ext (Z6.trans hx7)
    have q2_7 := q2_6.ext (Z6.trans hx7)
    have q3_7 := q3_6.ext (Z6.trans hx7)
    have q4_7 := q4_6.ext (Z6.trans hx7)
    have q5_7 := q5_6.ext (Z6.trans hx7)
    have q6_7 := q6.ext (Z6.trans hx7)
    clear b0_6 b1_6 r1_6 r2_6 r3_6 r4_6 r5_6
    refine wO_val (a_mov (by exact rfl)) ?_; refine wO_val (a_extract (by exact rfl) (by exact rfl)) ?_; refine wO_val (a_extract (by exact rfl) (by exact rfl)) ?_; refine wO_val a_new ?_
    refine wO_val (a_store (by exact rfl) (by exact rfl) (by (simp (disch := first | omega | (simp only [z1, z2]; omega)) only [z3, z4, z5, z6, z7, z1, z2, *]; exact rfl)) (by exact rfl) (by exact rfl)) ?_; refine wO_val (a_mov (by exact rfl)) ?_; refine wO_nil ?_
    refine kR_k (by simp only [keepE, dstE, geT, paramsE, cond_true, cond_false, Nat.beq]; exact rfl) ?_; refine kS_n ?_; refine wE_seq ?_; refine wE_region ?_
    refine wO_val (a_loadN (by exact rfl) (by (simp (disch := first | omega | (simp only [z1, z2]; omega)) only [z3, z4, z5, z6, z7, z1, z2, *]; exact rfl)) (by exact rfl) (by exact rfl)) ?_
    have Z7 : Ext h7 ((h7.push (.cells [.slice none 0 0, .int .i64 0] true 1)).wr h.next h7.next (.cells [.slice a7 E.l3.length c7, .int .i64 E.k3] true 1)) := ((Ext.refl h7).push _).wr (Nat.le_refl _) (by omega)
    have Y7 := X7.trans Z7
    refine wO_call (a_call (by exact rfl) (by exact rfl) (by exact rfl) (by exact rfl)) ?_
    refine FW.al (E.c65 (.of (Y7.wf hr.wf)) ((hs.ext Y7).log [])) (fun v h m q => SawQ.log v h m q) ?_
    rintro _ h8 hx8 ⟨s8, rfl, q8⟩
    obtain ⟨a8, c8, rfl⟩ := q8.form
    have N8 : h7.next + 1 ≤ h8.next := hx8.next
    have b0_8 : h8.get h.next = some (.cells [.slice a l.length c, .int .i64 kerf] true 1) := by rw [hx8.old _ (by (simp only [z1, z2]; omega))]; (simp (disch := first | omega | (simp only [z1, z2]; omega)) only [z3, z4, z5, z6, z7, z1, z2, *]; done)
    have b1_8 : h8.get (h.next + 1) = some (.cells (kc k) true 1) := by rw [hx8.old _ (by (simp only [z1, z2]; omega))]; (simp (disch := first | omega | (simp only [z1, z2]; omega)) only [z3, z4, z5, z6, z7, z1, z2, *]; done)
    have r1_8 : h8.get h1.next = some (.cells [.slice a1 E.l0.length c1, .int .i64 E.k0] true 1) := by rw [hx8.old _ (by (simp only [z1, z2]; omega))]; (simp (disch := first | omega | (simp only [z1, z2]; omega)) only [z3, z4, z5, z6, z7, z1, z2, *]; done)
    have r2_8 : h8.get h2.next = some (.cells [.slice a2 E.l0.length c2, .int .i64 E.k0] true 1) := by rw [hx8.old _ (by (simp only [z1, z2]; omega))]; (simp (disch := first | omega | (simp only [z1, z2]; omega)) only [z3, z4, z5, z6, z7, z1, z2, *]; done)
    have r3_8 : h8.get h3.next = some (.cells [.slice a3 E.l1.length c3, .int .i64 E.k1] true 1) := by rw [hx8.old _ (by (simp only [z1, z2]; omega))]; (simp (disch := first | omega | (simp only [z1, z2]; omega)) only [z3, z4, z5, z6, z7, z1, z2, *]; done)
    have r4_8 : h8.get h4.next = some (.cells [.slice a4 E.l1.length c4, .int .i64 E.k1] true 1) := by rw [hx8.old _ (by (simp only [z1, z2]; omega))]; (simp (disch := first | omega | (simp only [z1, z2]; omega)) only [z3, z4, z5, z6, z7, z1, z2, *]; done)
    have r5_8 : h8.get h5.next = some (.cells [.slice a5 E.l2.length c5, .int .i64 E.k2] true 1) := by rw [hx8.old _ (by (simp only [z1, z2]; omega))]; (simp (disch := first | omega | (simp only [z1, z2]; omega)) only [z3, z4, z5, z6, z7, z1, z2, *]; done)
    have r6_8 : h8.get h6.next = some (.cells [.slice a6 E.l2.length c6, .int .i64 E.k2] true 1) := by rw [hx8.old _ (by (simp only [z1, z2]; omega))]; (simp (disch := first | omega | (simp only [z1, z2]; omega)) only [z3, z4, z5, z6, z7, z1, z2, *]; done)
    have r7_8 : h8.get h7.next = some (.cells [.slice a7 E.l3.length c7, .int .i64 E.k3] true 1) := by rw [hx8.old _ (by (simp only [z1, z2]; omega))]; (simp (disch := first | omega | (simp only [z1, z2]; omega)) only [z3, z4, z5, z6, z7, z1, z2, *]; exact rfl)
    have X8 := Y7.trans hx8
    have q1_8 := q1_7.ext (Z7.trans hx8)
    have q2_8 := q2_7.ext (Z7.trans hx8)
    have q3_8 := q3_7.ext (Z7.trans hx8)
    have q4_8 := q4_7.ext (Z7.trans hx8)
    have q5_8 := q5_7.ext (Z7.trans hx8)
    have q6_8 := q6_7.ext (Z7.trans hx8)
    have q7_8 := q7.ext (Z7.trans hx8)
    clear b0_7 b1_7 r1_7 r2_7 r3_7 r4_7 r5_7 r6_7
    refine wO_val (a_mov (by exact rfl)) ?_; refine wO_val (a_extract (by exact rfl) (by exact rfl)) ?_; refine wO_val (a_extract (by exact rfl) (by exact rfl)) ?_; refine wO_val a_new ?_
    refine wO_val (a_store (by exact rfl) (by exact rfl) (by (simp (disch := first | omega | (simp only [z1, z2]; omega)) only [z3, z4, z5, z6, z7, z1, z2, *]; exact rfl)) (by exact rfl) (by exact rfl)) ?_; refine wO_val (a_mov (by exact rfl)) ?_; refine wO_nil ?_
    refine kR_k (by simp only [keepE, dstE, geT, paramsE, cond_true, cond_false, Nat.beq]; exact rfl) ?_; refine kS_n ?_; refine wE_seq ?_; refine wE_draw ?_
    have Z8 : Ext h8 ((h8.push (.cells [.slice none 0 0, .int .i64 0] true 1)).wr h.next h8.next (.cells [.slice a8 E.l3.length c8, .int .i64 E.k3] true 1)) := ((Ext.refl h8).push _).wr (Nat.le_refl _) (by omega)
    have Y8 := X8.trans Z8
    generalize hHE : Heap.wr (Heap.push h8 _) _ _ _ = hE
    have YE : Ext h hE := by rw [← hHE]; exact Y8
    have ZE : Ext h8 hE := by rw [← hHE]; exact Z8
    have wE : WF hE := YE.wf hr.wf
    have b0_9 : hE.get h.next = some (.cells [.slice a l.length c, .int .i64 kerf] true 1) := by rw [← hHE]; clear hHE; (simp (disch := first | omega | (simp only [z1, z2]; omega)) only [z3, z4, z5, z6, z7, z1, z2, *]; done)
    have b1_9 : hE.get (h.next + 1) = some (.cells (kc k) true 1) := by rw [← hHE]; clear hHE; (simp (disch := first | omega | (simp only [z1, z2]; omega)) only [z3, z4, z5, z6, z7, z1, z2, *]; done)
    have r1_9 : hE.get h1.next = some (.cells [.slice a1 E.l0.length c1, .int .i64 E.k0] true 1) := by rw [← hHE]; clear hHE; (simp (disch := first | omega | (simp only [z1, z2]; omega)) only [z3, z4, z5, z6, z7, z1, z2, *]; done)
    have r2_9 : hE.get h2.next = some (.cells [.slice a2 E.l0.length c2, .int .i64 E.k0] true 1) := by rw [← hHE]; clear hHE; (simp (disch := first | omega | (simp only [z1, z2]; omega)) only [z3, z4, z5, z6, z7, z1, z2, *]; done)
    have r3_9 : hE.get h3.next = some (.cells [.slice a3 E.l1.length c3, .int .i64 E.k1] true 1) := by rw [← hHE]; clear hHE; (simp (disch := first | omega | (simp only [z1, z2]; omega)) only [z3, z4, z5, z6, z7, z1, z2, *]; done)
    have r4_9 : hE.get h4.next = some (.cells [.slice a4 E.l1.length c4, .int .i64 E.k1] true 1) := by rw [← hHE]; clear hHE; (simp (disch := first | omega | (simp only [z1, z2]; omega)) only [z3, z4, z5, z6, z7, z1, z2, *]; done)
    have r5_9 : hE.get h5.next = some (.cells [.slice a5 E.l2.length c5, .int .i64 E.k2] true 1) := by rw [← hHE]; clear hHE; (simp (disch := first | omega | (simp only [z1, z2]; omega)) only [z3, z4, z5, z6, z7, z1, z2, *]; done)
    have r6_9 : hE.get h6.next = some (.cells [.slice a6 E.l2.length c6, .int .i64 E.k2] true 1) := by rw [← hHE]; clear hHE; (simp (disch := first | omega | (simp only [z1, z2]; omega)) only [z3, z4, z5, z6, z7, z1, z2, *]; done)
    have r7_9 : hE.get h7.next = some (.cells [.slice a7 E.l3.length c7, .int .i64 E.k3] true 1) := by rw [← hHE]; clear hHE; (simp (disch := first | omega | (simp only [z1, z2]; omega)) only [z3, z4, z5, z6, z7, z1, z2, *]; done)
    have r8_9 : hE.get h8.next = some (.cells [.slice a8 E.l3.length c8, .int .i64 E.k3] true 1) := by rw [← hHE]; clear hHE; (simp (disch := first | omega | (simp only [z1, z2]; omega)) only [z3, z4, z5, z6, z7, z1, z2, *]; exact rfl)
    have sE := hs.ext YE
    have q1_9 := q1_8.ext ZE
    have q2_9 := q2_8.ext ZE
    have q3_9 := q3_8.ext ZE
    have q4_9 := q4_8.ext ZE
    have q5_9 := q5_8.ext ZE
    have q6_9 := q6_8.ext ZE
    have q7_9 := q7_8.ext ZE
    have q8_9 := q8.ext ZE
    clear hHE b0_8 b1_8 r1_8 r2_8 r3_8 r4_8 r5_8 r6_8 r7_8 X1 Y1 Z1 X2 Y2 Z2 X3 Y3 Z3 X4 Y4 Z4 X5 Y5 Z5 X6 Y6 Z6 X7 Y7 Z7 X8 Y8 Z8 q1 q2 q3 q4 q5 q6 q7 q8 q1_8 q2_8 q3_8 q4_8 q5_8 q6_8 q7_8
    refine wD_call rfl rfl rfl (by exact rfl) (by exact rfl) (a_call (by exact rfl) (by exact rfl) (by exact rfl) (by exact rfl)) ?_
    refine FW.puD (G.c19 (.of wE)) (by exact ra_nil) ?_
    refine wD_quiet rfl rfl rfl (by exact rfl) (by exact rfl) (by exact rfl) (a_mov (by exact rfl)) ?_; refine wD_quiet rfl rfl rfl (by exact rfl) (by exact rfl) (by exact rfl) (a_loadN (by exact rfl) (by assumption) (by exact rfl) (by exact rfl)) ?_; refine wD_quiet rfl rfl rfl (by exact rfl) (by exact rfl) (by exact rfl) (a_loadN (by exact rfl) (by assumption) (by exact rfl) (by exact rfl)) ?_
    refine wD_call rfl rfl rfl (by exact rfl) (by exact rfl) (a_call (by exact rfl) (by exact rfl) (by exact rfl) (by exact rfl)) ?_
    refine FW.puD (check66 G.toFnsA (.of wE) (sE.log []) kerf hn) (by apply ra_keepC rfl (rq_quiet rfl (a_loadN (by exact rfl) (by assumption) (by exact rfl) (by exact rfl)) (by exact sv_agg (by refine sl_cons (s1_slice _ _ _) ?_; refine sl_cons (s1_int _ _) ?_; exact sl_nil))) rfl; apply ra_dropC rfl; apply ra_dropC rfl; exact ra_nil) ?_
    skip
    refine wD_call rfl rfl rfl (by exact rfl) (by exact rfl) (a_call (by exact rfl) (by exact rfl) (by exact rfl) (by exact rfl)) ?_
    refine FW.puD (check67 G.toFnsB (.of wE) (sE.log []) kerf hn) (by apply ra_dropC rfl; exact ra_nil) ?_
    refine wD_quiet rfl rfl rfl (by exact rfl) (by exact rfl) (by exact rfl) (a_num (by exact rfl) (by exact rfl) (by exact m_eqlT (by omega))) ?_; refine wD_quiet rfl rfl rfl (by exact rfl) (by exact rfl) (by exact rfl) (a_pickT (by exact rfl) (by exact rfl)) ?_; refine wD_quiet rfl rfl rfl (by exact rfl) (by exact rfl) (by exact rfl) (a_mov (by exact rfl)) ?_
    refine wD_quiet rfl rfl rfl (by exact rfl) (by exact rfl) (by exact rfl) (a_loadN (by exact rfl) (by assumption) (by exact rfl) (by exact rfl)) ?_; refine wD_quiet rfl rfl rfl (by exact rfl) (by exact rfl) (by exact rfl) (a_loadN (by exact rfl) (by assumption) (by exact rfl) (by exact rfl)) ?_
    refine wD_call rfl rfl rfl (by exact rfl) (by exact rfl) (a_call (by exact rfl) (by exact rfl) (by exact rfl) (by exact rfl)) ?_
    refine FW.puD (same68 G.toFnsA.p G.f68 (.of wE) (q1_9.log []) (q2_9.log []) E.k0 (by have := E.n0; omega)) (by apply ra_dropC rfl; apply ra_dropC rfl; apply ra_dropC rfl; apply ra_dropC rfl; apply ra_dropC rfl; exact ra_nil) ?_
    refine wD_quiet rfl rfl rfl (by exact rfl) (by exact rfl) (by exact rfl) (a_pickT (by exact rfl) (by exact rfl)) ?_; refine wD_quiet rfl rfl rfl (by exact rfl) (by exact rfl) (by exact rfl) (a_mov (by exact rfl)) ?_; refine wD_quiet rfl rfl rfl (by exact rfl) (by exact rfl) (by exact rfl) (a_mov (by exact rfl)) ?_
    refine wD_quiet rfl rfl rfl (by exact rfl) (by exact rfl) (by exact rfl) (a_mov (by exact rfl)) ?_; refine wD_quiet rfl rfl rfl (by exact rfl) (by exact rfl) (by exact rfl) (a_num (by exact rfl) (by exact rfl) (by exact m_eqlT (by omega))) ?_; refine wD_quiet rfl rfl rfl (by exact rfl) (by exact rfl) (by exact rfl) (a_pickT (by exact rfl) (by exact rfl)) ?_
    refine wD_quiet rfl rfl rfl (by exact rfl) (by exact rfl) (by exact rfl) (a_mov (by exact rfl)) ?_; refine wD_quiet rfl rfl rfl (by exact rfl) (by exact rfl) (by exact rfl) (a_loadN (by exact rfl) (by assumption) (by exact rfl) (by exact rfl)) ?_; refine wD_quiet rfl rfl rfl (by exact rfl) (by exact rfl) (by exact rfl) (a_loadN (by exact rfl) (by assumption) (by exact rfl) (by exact rfl)) ?_
    refine wD_call rfl rfl rfl (by exact rfl) (by exact rfl) (a_call (by exact rfl) (by exact rfl) (by exact rfl) (by exact rfl)) ?_
    refine FW.puD (same68 G.toFnsA.p G.f68 (.of wE) (q3_9.log []) (q4_9.log []) E.k1 (by have := E.n1; omega)) (by apply ra_dropC rfl; apply ra_dropC rfl; apply ra_dropC rfl; apply ra_dropC rfl; apply ra_dropC rfl; apply ra_dropC rfl; apply ra_dropC rfl; apply ra_dropC rfl; apply ra_dropC rfl; exact ra_nil) ?_
    refine wD_quiet rfl rfl rfl (by exact rfl) (by exact rfl) (by exact rfl) (a_pickT (by exact rfl) (by exact rfl)) ?_; refine wD_quiet rfl rfl rfl (by exact rfl) (by exact rfl) (by exact rfl) (a_mov (by exact rfl)) ?_; refine wD_quiet rfl rfl rfl (by exact rfl) (by exact rfl) (by exact rfl) (a_mov (by exact rfl)) ?_
    refine wD_quiet rfl rfl rfl (by exact rfl) (by exact rfl) (by exact rfl) (a_mov (by exact rfl)) ?_; refine wD_quiet rfl rfl rfl (by exact rfl) (by exact rfl) (by exact rfl) (a_num (by exact rfl) (by exact rfl) (by exact m_eqlT (by omega))) ?_; refine wD_quiet rfl rfl rfl (by exact rfl) (by exact rfl) (by exact rfl) (a_pickT (by exact rfl) (by exact rfl)) ?_
    refine wD_quiet rfl rfl rfl (by exact rfl) (by exact rfl) (by exact rfl) (a_mov (by exact rfl)) ?_; refine wD_quiet rfl rfl rfl (by exact rfl) (by exact rfl) (by exact rfl) (a_loadN (by exact rfl) (by assumption) (by exact rfl) (by exact rfl)) ?_; refine wD_quiet rfl rfl rfl (by exact rfl) (by exact rfl) (by exact rfl) (a_loadN (by exact rfl) (by assumption) (by exact rfl) (by exact rfl)) ?_
    refine wD_call rfl rfl rfl (by exact rfl) (by exact rfl) (a_call (by exact rfl) (by exact rfl) (by exact rfl) (by exact rfl)) ?_
    refine FW.puD (same68 G.toFnsA.p G.f68 (.of wE) (q5_9.log []) (q6_9.log []) E.k2 (by have := E.n2; omega)) (by apply ra_dropC rfl; apply ra_dropC rfl; apply ra_dropC rfl; apply ra_dropC rfl; apply ra_dropC rfl; apply ra_dropC rfl; apply ra_dropC rfl; apply ra_dropC rfl; apply ra_dropC rfl; exact ra_nil) ?_
    refine wD_quiet rfl rfl rfl (by exact rfl) (by exact rfl) (by exact rfl) (a_pickT (by exact rfl) (by exact rfl)) ?_; refine wD_quiet rfl rfl rfl (by exact rfl) (by exact rfl) (by exact rfl) (a_mov (by exact rfl)) ?_; refine wD_quiet rfl rfl rfl (by exact rfl) (by exact rfl) (by exact rfl) (a_mov (by exact rfl)) ?_
    refine wD_quiet rfl rfl rfl (by exact rfl) (by exact rfl) (by exact rfl) (a_mov (by exact rfl)) ?_; refine wD_quiet rfl rfl rfl (by exact rfl) (by exact rfl) (by exact rfl) (a_num (by exact rfl) (by exact rfl) (by exact m_eqlT (by omega))) ?_; refine wD_quiet rfl rfl rfl (by exact rfl) (by exact rfl) (by exact rfl) (a_pickT (by exact rfl) (by exact rfl)) ?_
    refine wD_quiet rfl rfl rfl (by exact rfl) (by exact rfl) (by exact rfl) (a_mov (by exact rfl)) ?_; refine wD_quiet rfl rfl rfl (by exact rfl) (by exact rfl) (by exact rfl) (a_loadN (by exact rfl) (by assumption) (by exact rfl) (by exact rfl)) ?_; refine wD_quiet rfl rfl rfl (by exact rfl) (by exact rfl) (by exact rfl) (a_loadN (by exact rfl) (by assumption) (by exact rfl) (by exact rfl)) ?_
    refine wD_call rfl rfl rfl (by exact rfl) (by exact rfl) (a_call (by exact rfl) (by exact rfl) (by exact rfl) (by exact rfl)) ?_
    refine FW.puD (same68 G.toFnsA.p G.f68 (.of wE) (q7_9.log []) (q8_9.log []) E.k3 (by have := E.n3; omega)) (by apply ra_dropC rfl; apply ra_dropC rfl; apply ra_dropC rfl; apply ra_dropC rfl; apply ra_dropC rfl; apply ra_dropC rfl; apply ra_dropC rfl; apply ra_dropC rfl; apply ra_dropC rfl; exact ra_nil) ?_
    refine wD_quiet rfl rfl rfl (by exact rfl) (by exact rfl) (by exact rfl) (a_pickT (by exact rfl) (by exact rfl)) ?_; refine wD_quiet rfl rfl rfl (by exact rfl) (by exact rfl) (by exact rfl) (a_mov (by exact rfl)) ?_; refine wD_quiet rfl rfl rfl (by exact rfl) (by exact rfl) (by exact rfl) (a_mov (by exact rfl)) ?_
    refine wD_quiet rfl rfl rfl (by exact rfl) (by exact rfl) (by exact rfl) (a_mov (by exact rfl)) ?_; refine wD_quiet rfl rfl rfl (by exact rfl) (by exact rfl) (by exact rfl) (a_num (by exact rfl) (by exact rfl) (by exact m_eqlT (by omega))) ?_; refine wD_quiet rfl rfl rfl (by exact rfl) (by exact rfl) (by exact rfl) (a_pickT (by exact rfl) (by exact rfl)) ?_
    refine wD_quiet rfl rfl rfl (by exact rfl) (by exact rfl) (by exact rfl) (a_mov (by exact rfl)) ?_; refine wD_nil ?_; refine kR_k (by simp only [keepE, dstE, geT, paramsE, cond_true, cond_false, Nat.beq]; exact rfl) ?_; refine kS_n ?_; refine wE_ret ?_
    exact endP_ret (YE.log.trans hr.log) rfl rfl
  · rw [decide_eq_false hfew]
    refine wO_val (a_not (by exact rfl)) ?_; refine wO_nil ?_; refine kR_k (by simp only [keepE, dstE, geT, paramsE, cond_true, cond_false, Nat.beq]; exact rfl) ?_; refine kS_n ?_; refine wE_true (by exact rfl) ?_; refine wE_seq ?_; refine wE_region ?_
    refine wO_call (a_call (by exact rfl) (by exact rfl) (by exact rfl) (by exact rfl)) ?_
    refine FW.pu (G.c19 (.of (hx.wf hr.wf))) ?_
    refine wO_val (a_mov (by exact rfl)) ?_; refine wO_nil ?_; refine kR_k (by simp only [keepE, dstE, geT, paramsE, cond_true, cond_false, Nat.beq]; exact rfl) ?_; refine kS_n ?_; refine wE_ret ?_; refine kS_r ?_
    exact endP_ret hr.log rfl rfl
end Go.A.Pk
end
section
set_option maxRecDepth 100000
namespace Go.A.Pk
variable {T : Nat → Option AFunc}
theorem chk_iff {kerf : Int} {l : List Kd} : chk kerf l = 0 ↔ l.length ≤ 12 ∧ (0 ≤ kerf ∧ kerf ≤ 2) ∧ (∀ k ∈ l, Right k) ∧ l.Pairwise fun x y => x.id ≠ y.id := by
  have key : (List.range l.length).all (goodK l) = true ↔ (∀ k ∈ l, Right k) ∧ l.Pairwise fun x y => x.id ≠ y.id := by
    rw [List.all_eq_true]
    constructor
    · intro h
      have h1 : ∀ (i : Nat) (hi : i < l.length), Right l[i] ∧ ∀ x ∈ l.take i, x.id ≠ l[i].id := fun i hi => by
        have := h i (by simpa using hi)
        unfold goodK at this
        rw [List.getElem?_eq_getElem hi] at this
        simpa using this
      refine ⟨fun k hk => ?_, ?_⟩
      · obtain ⟨i, hi, rfl⟩ := List.getElem_of_mem hk
        exact (h1 i hi).1
      · rw [List.pairwise_iff_getElem]
        intro i j hi hj hij
        exact (h1 j hj).2 _ (by rw [List.mem_take_iff_getElem]; exact ⟨i, by omega, rfl⟩)
    · rintro ⟨h1, h2⟩ i hi
      have hi : i < l.length := by simpa using hi
      unfold goodK
      rw [List.getElem?_eq_getElem hi]
      rw [List.pairwise_iff_getElem] at h2
      simp only [Bool.and_eq_true, decide_eq_true_eq, Bool.not_eq_true', List.any_eq_false, beq_iff_eq]
      refine ⟨h1 _ (List.getElem_mem hi), fun x hx => ?_⟩
      rw [List.mem_take_iff_getElem] at hx
      obtain ⟨j, hj, rfl⟩ := hx
      exact h2 j i (by omega) hi (by omega)
  unfold chk good
  by_cases h12 : 12 < l.length
  · rw [if_pos h12]
    constructor
    · intro h; omega
    · intro h; omega
  · rw [if_neg h12]
    constructor
    · intro h
      split at h
      · rename_i hg
        simp only [Bool.and_eq_true, decide_eq_true_eq] at hg
        exact ⟨by omega, hg.1, key.1 hg.2⟩
      · omega
    · rintro ⟨_, h1, h2⟩
      rw [if_pos]
      simp only [Bool.and_eq_true, decide_eq_true_eq]
      exact ⟨h1, key.2 h2⟩
theorem chk_erase {kerf : Int} {l : List Kd} (h : chk kerf l = 0) (i : Nat) : chk kerf (l.eraseIdx i) = 0 := by
  rw [chk_iff] at h ⊢
  obtain ⟨h1, h2, h3, h4⟩ := h
  have hs := List.eraseIdx_sublist l i
  exact ⟨Nat.le_trans hs.length_le h1, h2, fun k hk => h3 k (hs.subset hk), h4.sublist hs⟩
theorem erase_len {l : List Kd} {i : Nat} (hi : i < l.length) : (l.eraseIdx i).length = l.length - 1 := by rw [List.length_eraseIdx, if_pos hi]
theorem kcs_put {l : List Kd} {i : Nat} (hi : i < l.length) : lputs (kcs l) (0 + i * 5) (kcs (l.drop (i + 1))) = kcs (l.eraseIdx i) ++ (kcs l).drop ((l.length - 1) * 5) := by
  have h1 : (kcs (l.drop (i + 1))).length = (l.length - (i + 1)) * 5 := by rw [kcs_length, List.length_drop]
  rw [lputs_mid (by rw [h1, kcs_length]; omega), List.eraseIdx_eq_take_drop_succ, kcs_append, Nat.zero_add, kcs_take, h1]
  congr 2
  omega
theorem kcs_last {l : List Kd} {i : Nat} (hi : i + 1 = l.length) : kcs l = kcs (l.eraseIdx i) ++ (kcs l).drop ((l.length - 1) * 5) := by
  have h1 := kcs_put (l := l) (i := i) (by omega)
  have h2 : l.drop (i + 1) = [] := List.drop_of_length_le (by omega)
  rw [h2] at h1
  have h3 : lputs (kcs l) (0 + i * 5) (kcs []) = kcs l := by cases kcs l <;> rfl
  rw [← h1, h3]
theorem tail_len (l : List Kd) (h : l ≠ []) : ((kcs l).drop ((l.length - 1) * 5)).length = 5 := by
  have : 0 < l.length := List.length_pos_iff.2 h
  rw [List.length_drop, kcs_length]; omega
theorem er_slice {H : Heap} {b m : Nat} {l : List Kd} {t : List Value} (hH : b < H.next) (gH : H.get b = some (.cells (kcs l ++ t) true 5)) (hn : m = l.length) (hn2 : m < 2000000) : SliceOf H 5 (.slice (some ⟨b, 0, none⟩) m UNK) l.length (kcs l) := by
  subst hn
  refine .mem ⟨hH, ⟨_, _, _, gH, ?_⟩, kcs_length l⟩ (by unfold UNK; omega)
  rw [ltake_eq, ldrop_eq, List.drop_zero, List.take_left' (kcs_length l)]
theorem put_tail {A t z : List Value} {o : Nat} (ho : A.length = o) (ht : t.length = z.length) : lputs (A ++ t) o z = A ++ z := by
  subst ho
  rw [lputs_mid (by simp; omega), List.take_left, List.drop_of_length_le (by simp; omega), List.append_nil]
theorem src_drop {H : Heap} {b i : Nat} {l : List Kd} {c : Nat} (gH : H.get b = some (.cells (kcs l) true 5)) (hi : i ≤ l.length) : srcCells H 5 (.slice (some ⟨b, 0 + i * 5, none⟩) (l.length - i) c) = some (kcs (l.drop i), l.length - i) := by
  refine src_slice gH ?_ (by rw [kcs_length, List.length_drop])
  rw [ltake_eq, ldrop_eq, Nat.zero_add, kcs_drop, List.take_of_length_le (by rw [kcs_length, List.length_drop]; omega)]
set_option maxHeartbeats 4000000 in
theorem delete114 (G : FnsH T) {h : Heap} (hr : Rdy h) {b i : Nat} {l : List Kd} (hb : h.get b = some (.cells (kcs l) true 5)) (hlt : b < h.next) (hi : i < l.length) (hn : l.length < 1000000) :
    CW T 114 [.slice (some ⟨b, 0, none⟩) l.length UNK, .int .i64 (i : Nat), .int .i64 (i + 1 : Nat)] h fun r h' => ∃ u, r = .ret u ∧ u = .slice (some ⟨b, 0, none⟩) (l.eraseIdx i).length UNK ∧ ∃ cs, (∃ t, cs = kcs (l.eraseIdx i) ++ t) ∧ Upd h h' b (.cells cs true 5) := by
  refine CW.ofB G.f114 ?_
  have hel := erase_len hi
  have hne : l ≠ [] := by intro e; rw [e] at hi; simp at hi
  have htl := tail_len l hne
  have hkl := kcs_length (l.eraseIdx i)
  refine wE_seq ?_; refine wE_region ?_; refine wO_val (a_mov (by exact rfl)) ?_; refine wO_nil ?_; refine kR_k (by simp only [keepE, dstE, geT, paramsE, cond_true, cond_false, Nat.beq]; exact rfl) ?_; refine kS_n ?_; refine wE_seq ?_; refine wE_region ?_; refine wO_val (a_mov (by exact rfl)) ?_; refine wO_val (a_mov (by exact rfl)) ?_; refine wO_val (a_mov (by exact rfl)) ?_
  refine wO_val (a_mov (by exact rfl)) ?_; refine wO_val (a_len1 (by exact rfl)) ?_
  refine wO_slice3 (by exact rfl) (by exact rfl) (by exact rfl) (by exact rfl) (by omega) (by omega) (by omega) (by omega) ?_
  intro v13
  refine wO_nil ?_; refine kR_k (by simp only [keepE, dstE, geT, paramsE, cond_true, cond_false, Nat.beq]; exact rfl) ?_; refine kS_n ?_; refine wE_seq ?_; refine wE_seq ?_; refine wE_region ?_; refine wO_val (a_mov (by exact rfl)) ?_; refine wO_val (a_mov (by exact rfl)) ?_; refine wO_val (a_num (by exact rfl) (by exact rfl) (by exact m_eqlF (by omega))) ?_; refine wO_nil ?_
  refine kR_k (by simp only [keepE, dstE, geT, paramsE, cond_true, cond_false, Nat.beq]; exact rfl) ?_; refine kS_n ?_; refine wE_false (by exact rfl) ?_; refine wE_skip ?_; refine kS_n ?_; refine wE_seq ?_; refine wE_region ?_; refine wO_val (a_mov (by exact rfl)) ?_; refine wO_val (a_len1 (by exact rfl)) ?_; refine wO_val (a_mov (by exact rfl)) ?_; refine wO_nil ?_
  refine kR_k (by simp only [keepE, dstE, geT, paramsE, cond_true, cond_false, Nat.beq]; exact rfl) ?_; refine kS_n ?_; refine wE_seq ?_; refine wE_draw ?_; refine wD_quiet rfl rfl rfl (by exact rfl) (by exact rfl) (by exact rfl) (a_mov (by exact rfl)) ?_; refine wD_quiet rfl rfl rfl (by exact rfl) (by exact rfl) (by exact rfl) (a_mov (by exact rfl)) ?_
  refine wD_quiet rfl rfl rfl (by exact rfl) (by exact rfl) (by exact rfl) (a_slice_hi (by exact rfl) (by exact rfl) hb (by omega) (by omega)) ?_
  refine wD_quiet rfl rfl rfl (by exact rfl) (by exact rfl) (by exact rfl) (a_mov (by exact rfl)) ?_; refine wD_quiet rfl rfl rfl (by exact rfl) (by exact rfl) (by exact rfl) (a_mov (by exact rfl)) ?_
  by_cases hc : i + 1 < l.length
  · refine wD_quiet rfl rfl rfl (by exact rfl) (by exact rfl) (by exact rfl) (a_slice_lo (by exact rfl) (by exact rfl) hb hc) ?_
    refine wD_app_fit (ws := kcs (l.eraseIdx i) ++ (kcs l).drop ((l.length - 1) * 5)) rfl rfl rfl (by exact rfl) (by exact rfl) (by exact rfl) (src_log (src_drop hb (by omega))) (by omega) hb (by rw [kcs_length]; omega) (ones_kcs _) (by omega) (kcs_put hi) hlt (by apply ra_dropC rfl; apply ra_dropC rfl; apply ra_dropC rfl; apply ra_dropC rfl; apply ra_dropC rfl; apply ra_dropC rfl; exact ra_nil) ?_
    have en : i + (l.length - (i + 1)) = l.length - 1 := by omega
    rw [en]
    refine wD_quiet rfl rfl rfl (by exact rfl) (by exact rfl) (by exact rfl) (a_mov (by exact rfl)) ?_; refine wD_nil ?_; refine kR_k (by simp only [keepE, dstE, geT, paramsE, cond_true, cond_false, Nat.beq]; exact rfl) ?_; refine kS_n ?_; refine wE_seq ?_; refine wE_region ?_; refine wO_val (a_mov (by exact rfl)) ?_; refine wO_val (a_mov (by exact rfl)) ?_; refine wO_val (a_len1 (by exact rfl)) ?_
    refine wO_val (a_mov (by exact rfl)) ?_
    refine wO_val (a_slice_in (vs := kcs (l.eraseIdx i) ++ (kcs l).drop ((l.length - 1) * 5)) (own := true) (by exact rfl) (by exact rfl) (by exact rfl) (by (simp (disch := first | omega | (simp only [z1, z2]; omega)) only [z3, z4, z5, z6, z7, z1, z2, *]; done)) (by omega) (by rw [List.length_append, htl, hkl]; omega)) ?_
    have e1 : l.length - (l.length - 1) = 1 := by omega
    rw [e1]
    refine wO_val (a_clear (ws := kcs (l.eraseIdx i) ++ lrow 1 [.int .i64 0, .int .i64 0, .int .i64 0, .int .i64 0, .bool false]) (by exact rfl) (by omega) (by (simp (disch := first | omega | (simp only [z1, z2]; omega)) only [z3, z4, z5, z6, z7, z1, z2, *]; exact rfl)) (by rw [List.length_append, htl, hkl, lrow_length]; simp; omega) rfl (put_tail (o := 0 + (l.length - 1) * 5) (by rw [hkl, hel]; omega) htl)) ?_
    refine wO_nil ?_; refine kR_k (by simp only [keepE, dstE, geT, paramsE, cond_true, cond_false, Nat.beq]; exact rfl) ?_; refine kS_n ?_; refine wE_seq ?_; refine wE_region ?_; refine wO_val (a_mov (by exact rfl)) ?_; refine wO_val (a_mov (by exact rfl)) ?_; refine wO_nil ?_; refine kR_k (by simp only [keepE, dstE, geT, paramsE, cond_true, cond_false, Nat.beq]; exact rfl) ?_; refine kS_n ?_
    refine wE_ret ?_
    refine endB_ret (vs := [.slice (some ⟨b, 0, none⟩) (l.length - 1) UNK]) rfl rfl ⟨by rw [hel]; rfl, kcs (l.eraseIdx i) ++ lrow 1 [.int .i64 0, .int .i64 0, .int .i64 0, .int .i64 0, .bool false], ⟨lrow 1 [.int .i64 0, .int .i64 0, .int .i64 0, .int .i64 0, .bool false], rfl⟩, ?_⟩
    refine Upd.wr hlt (.inr ?_) (Nat.le_refl _) (fun x hx hne => z5 hne) (Heap.get_wr_new hb) fun w => w.as (AS.wr _ _ _ _)
    simp only [Heap.wr, nblt_of hlt, hr.log, lhas, cond_true, cond_false]
  · have hie : i + 1 = l.length := by omega
    refine wD_slice_end rfl rfl rfl (by exact rfl) (by rfl) (fun _ => by exact rfl) (fun _ => by exact rfl) hie hb (by omega) (by (apply ra_dropC rfl); (apply ra_dropC rfl); (apply ra_keepC rfl (rq_quiet rfl (a_slice_hi (by exact rfl) (by exact rfl) (by (simp (disch := first | omega | (simp only [z1, z2]; omega)) only [z3, z4, z5, z6, z7, z1, z2, *]; exact rfl)) (by omega) (by omega)) (sv_slice _ _ _)) rfl); apply ra_keepC rfl (rq_quiet rfl (a_mov (by exact rfl)) (by exact sv_int _ _)) rfl; apply ra_keepC rfl (rq_quiet rfl (a_mov (by exact rfl)) (by exact sv_slice _ _ _)) rfl; exact ra_nil) ?_
    refine wD_app_zero rfl rfl rfl (by exact rfl) (by exact rfl) (by exact rfl) (src_log (src_slice (cs := []) (z3 _ _) rfl rfl)) (by unfold UNK; omega) (by apply ra_dropC rfl; apply ra_dropC rfl; apply ra_dropC rfl; exact ra_nil) ?_
    have hb2 : (h.push (.cells [] false 5)).get b = some (.cells (kcs (l.eraseIdx i) ++ (kcs l).drop ((l.length - 1) * 5)) true 5) := by rw [← kcs_last hie]; exact (z4 hlt).trans hb
    refine wD_quiet rfl rfl rfl (by exact rfl) (by exact rfl) (by exact rfl) (a_mov (by exact rfl)) ?_; refine wD_nil ?_; refine kR_k (by simp only [keepE, dstE, geT, paramsE, cond_true, cond_false, Nat.beq]; exact rfl) ?_; refine kS_n ?_; refine wE_seq ?_; refine wE_region ?_; refine wO_val (a_mov (by exact rfl)) ?_; refine wO_val (a_mov (by exact rfl)) ?_; refine wO_val (a_len1 (by exact rfl)) ?_
    refine wO_val (a_mov (by exact rfl)) ?_
    refine wO_val (a_slice_in (vs := kcs (l.eraseIdx i) ++ (kcs l).drop ((l.length - 1) * 5)) (own := true) (by exact rfl) (by exact rfl) (by exact rfl) hb2 (by omega) (by rw [List.length_append, htl, hkl]; omega)) ?_
    have e1 : l.length - i = 1 := by omega
    rw [e1]
    refine wO_val (a_clear (ws := kcs (l.eraseIdx i) ++ lrow 1 [.int .i64 0, .int .i64 0, .int .i64 0, .int .i64 0, .bool false]) (by exact rfl) (by omega) hb2 (by rw [List.length_append, htl, hkl, lrow_length]; simp; omega) rfl (put_tail (o := 0 + i * 5) (by rw [hkl, hel]; omega) htl)) ?_
    refine wO_nil ?_; refine kR_k (by simp only [keepE, dstE, geT, paramsE, cond_true, cond_false, Nat.beq]; exact rfl) ?_; refine kS_n ?_; refine wE_seq ?_; refine wE_region ?_; refine wO_val (a_mov (by exact rfl)) ?_; refine wO_val (a_mov (by exact rfl)) ?_; refine wO_nil ?_; refine kR_k (by simp only [keepE, dstE, geT, paramsE, cond_true, cond_false, Nat.beq]; exact rfl) ?_; refine kS_n ?_
    refine wE_ret ?_
    refine endB_ret (vs := [.slice (some ⟨b, 0, none⟩) i UNK]) rfl rfl ⟨by rw [hel, ← hie]; rfl, kcs (l.eraseIdx i) ++ lrow 1 [.int .i64 0, .int .i64 0, .int .i64 0, .int .i64 0, .bool false], ⟨lrow 1 [.int .i64 0, .int .i64 0, .int .i64 0, .int .i64 0, .bool false], rfl⟩, ?_⟩
    exact Upd.wr hlt (.inl hr.log) (Nat.le_succ _) (fun x hx hne => z4 hx) hb2 fun w => w.push _
set_option maxHeartbeats 4000000 in
theorem without61 (G : FnsH T) {h : Heap} (hr : Rdy h) {a : Option Addr} {n c : Nat} {l : List Kd} (hs : SliceOf h 5 (.slice a n c) n (kcs l)) (kerf : Int) (hn : n < 1000000) (i : Int) :
    Al T 61 [.agg #[.slice a n c, .int .i64 kerf], .int .i64 i] h (orErr (asked kerf l (0 ≤ i ∧ i < n)) (SawQ 0 kerf (l.eraseIdx i.toNat))) := by
  refine .of G.toFnsA.p G.f61 hr (orErr.gc SawQ.gc) ?_
  have hx : Ext h ((h.push (.cells [.slice a n c, .int .i64 kerf] true 1)).push (.cells [.slice none 0 0, .int .i64 0] true 1)) := ((Ext.refl h).push _).push _
  obtain rfl : n = l.length := by have := hs.len; rw [kcs_length] at this; omega
  refine wE_seq ?_; refine wE_region ?_; refine wO_val (a_box (by exact rfl) (by exact rfl)) ?_; refine wO_val a_new ?_; refine wO_val (a_mov (by exact rfl)) ?_; refine wO_nil ?_; refine kR_k (by simp only [keepE, dstE, geT, paramsE, cond_true, cond_false, Nat.beq]; exact rfl) ?_; refine kS_n ?_; refine wE_seq ?_; refine wE_seq ?_; refine wE_draw ?_
  refine wD_quiet rfl rfl rfl (by exact rfl) (by exact rfl) (by exact rfl) (a_loadN (by exact rfl) (by (simp (disch := first | omega | (simp only [z1, z2]; omega)) only [z3, z4, z5, z6, z7, z1, z2, *]; exact rfl)) (by exact rfl) (by exact rfl)) ?_
  refine wD_quiet rfl rfl rfl (by exact rfl) (by exact rfl) (by exact rfl) (a_loadN (by exact rfl) (by (simp (disch := first | omega | (simp only [z1, z2]; omega)) only [z3, z4, z5, z6, z7, z1, z2, *]; exact rfl)) (by exact rfl) (by exact rfl)) ?_
  refine wD_quiet rfl rfl rfl (by exact rfl) (by exact rfl) (by exact rfl) (a_mov (by exact rfl)) ?_
  refine wD_call rfl rfl rfl (by exact rfl) (by exact rfl) (a_call (by exact rfl) (by exact rfl) (by exact rfl) (by exact rfl)) ?_
  refine FW.puD (isKind97 G.toFnsC (.of (hx.wf hr.wf)) kerf i hn) (by apply ra_dropC rfl; apply ra_dropC rfl; apply ra_keepC rfl (rq_quiet rfl (a_loadN (by exact rfl) (by (simp (disch := first | omega | (simp only [z1, z2]; omega)) only [z3, z4, z5, z6, z7, z1, z2, *]; exact rfl)) (by exact rfl) (by exact rfl)) (by exact sv_agg (by refine sl_cons (s1_slice _ _ _) ?_; refine sl_cons (s1_int _ _) ?_; exact sl_nil))) rfl; exact ra_nil) ?_
  refine wD_new rfl rfl rfl (by exact rfl) (by exact rfl) (by exact rfl) (a_bslice (by exact rfl) (by exact rfl)) (by refine rs_cons (rq_quiet rfl (a_loadN (by exact rfl) (by (simp (disch := first | omega | (simp only [z1, z2]; omega)) only [z3, z4, z5, z6, z7, z1, z2, *]; exact rfl)) (by exact rfl) (by exact rfl)) (by exact sv_agg (by refine sl_cons (s1_slice _ _ _) ?_; refine sl_cons (s1_int _ _) ?_; exact sl_nil))) ?_; exact rs_nil) ?_
  refine wD_call rfl rfl rfl (by exact rfl) (by exact rfl) (a_call (by exact rfl) (by exact rfl) (by exact rfl) (by exact rfl)) ?_
  have hx2 := hx.push (.cells [.bool (decide (0 ≤ i ∧ i < l.length))] true 1)
  refine FW.alD (started75 G.toFnsE (.of (hx2.wf hr.wf)) ((hs.ext hx2).log []) kerf hn (bl := [decide (0 ≤ i ∧ i < l.length)]) (m := 1) (.mem ⟨Nat.lt_succ_self _, ⟨_, _, _, z3 _ _, rfl⟩, rfl⟩ (Nat.le_refl _)) (by omega)) (fun _ _ _ q => q) ?_
  rintro _ h1 hx3 ⟨p, rfl⟩
  rw [startE_one]
  have hN : h.next + 3 ≤ h1.next := hx3.next
  have g1 : h1.get h.next = some (.cells [.slice a l.length c, .int .i64 kerf] true 1) := by rw [hx3.old _ (by (simp only [z1, z2]; omega))]; (simp (disch := first | omega | (simp only [z1, z2]; omega)) only [z3, z4, z5, z6, z7, z1, z2, *]; exact rfl)
  have g2 : h1.get (h.next + 1) = some (.cells [.slice none 0 0, .int .i64 0] true 1) := by rw [hx3.old _ (by (simp only [z1, z2]; omega))]; (simp (disch := first | omega | (simp only [z1, z2]; omega) | (simp only [z1, z2]; done) | fail) only [z8, z4, z5, z9, z7, z1, z2, *]; done)
  refine ⟨_, by apply ra_dropC rfl; apply ra_dropC rfl; exact ra_nil, ?_⟩
  have w1 : WF h1 := hx3.wf (hx2.wf hr.wf)
  have hx13 : Ext h h1 := hx2.trans hx3
  unfold orErr
  by_cases ha : asked kerf l (0 ≤ i ∧ i < l.length) = 0
  · simp only [if_pos ha]
    have hP := asked_zero ha
    obtain ⟨j, rfl⟩ := Int.eq_ofNat_of_zero_le hP.2.1
    have hj : j < l.length := by omega
    have hk := chk_erase hP.1 j
    have ej : (j : Int).toNat = j := rfl
    rw [ej]
    refine wD_quiet rfl rfl rfl (by exact rfl) (by exact rfl) (by exact rfl) (a_mov (by exact rfl)) ?_; refine wD_quiet rfl rfl rfl (by exact rfl) (by exact rfl) (by exact rfl) (a_extract (by exact rfl) (by exact rfl)) ?_; refine wD_quiet rfl rfl rfl (by exact rfl) (by exact rfl) (by exact rfl) (a_extract (by exact rfl) (by exact rfl)) ?_
    refine wD_quiet rfl rfl rfl (by exact rfl) (by exact rfl) (by exact rfl) (a_mov (by exact rfl)) ?_; refine wD_quiet rfl rfl rfl (by exact rfl) (by exact rfl) (by exact rfl) (a_mov (by exact rfl)) ?_; refine wD_nil ?_; refine kR_k (by simp only [keepE, dstE, geT, paramsE, cond_true, cond_false, Nat.beq]; exact rfl) ?_; refine kS_n ?_; refine wE_seq ?_; refine wE_region ?_
    refine wO_val (a_mov (by exact rfl)) ?_; refine wO_val (a_num (by exact rfl) (by exact rfl) (by exact m_neqF (by omega))) ?_; refine wO_nil ?_; refine kR_k (by simp only [keepE, dstE, geT, paramsE, cond_true, cond_false, Nat.beq]; exact rfl) ?_; refine kS_n ?_; refine wE_false (by exact rfl) ?_; refine wE_skip ?_; refine kS_n ?_; refine wE_seq ?_; refine wE_region ?_
    refine wO_val (a_faddr (by exact rfl)) ?_; refine wO_val (a_load (by exact rfl) (by assumption) (by exact rfl)) ?_
    refine wO_call (a_call (by exact rfl) (by exact rfl) (by exact rfl) (by exact rfl)) ?_
    refine FW.al (clone96 G.toFnsE (.of w1) ((hs.ext hx13).log []) hn) (fun _ _ _ q => q.log _) ?_
    rintro v2 h2 hx4 hq
    cases hq with
    | nil => simp at hj
    | empty => simp at hj
    | @full b2 n2 _ q1 q2 q3 q4 q5 =>
      subst q4
      have q1' : h1.next ≤ b2 := q1
      have hN4 : h1.next ≤ h2.next := hx4.next
      have g3 : h2.get h.next = some (.cells [.slice a l.length c, .int .i64 kerf] true 1) := (hx4.old _ (by omega)).trans g1
      have g4 : h2.get (h.next + 1) = some (.cells [.slice none 0 0, .int .i64 0] true 1) := (hx4.old _ (by omega)).trans g2
      have w2 : WF h2 := hx4.wf w1
      refine wO_val (a_mov (by exact rfl)) ?_; refine wO_val (a_mov (by exact rfl)) ?_; refine wO_val (a_num (by exact rfl) (by exact rfl) (by exact m_inc (by omega))) ?_
      refine wO_call (a_call (by exact rfl) (by exact rfl) (by exact rfl) (by exact rfl)) ?_
      refine FW.upd (v := .slice (some ⟨b2, 0, none⟩) (l.eraseIdx j).length UNK) (P := fun cs => ∃ t, cs = kcs (l.eraseIdx j) ++ t) (delete114 G (.of w2) (b := b2) q3 q2 hj hn) (by omega) ?_
      rintro h3 _ ⟨t, rfl⟩ hN5 hl3 hold3 hb3 hw3
      have x3 : Ext h h3 := (hx13.trans hx4).upd (b := b2) (by omega) hN5 hl3 hold3 hw3
      have g5 : h3.get h.next = some (.cells [.slice a l.length c, .int .i64 kerf] true 1) := (hold3 _ (by omega) (by omega)).trans g3
      have g6 : h3.get (h.next + 1) = some (.cells [.slice none 0 0, .int .i64 0] true 1) := (hold3 _ (by omega) (by omega)).trans g4
      have el : (l.eraseIdx j).length ≤ l.length := (List.eraseIdx_sublist l j).length_le
      clear hold3 hw3 g1 g2 g3 g4 q3 hl3
      generalize l.eraseIdx j = l' at *
      refine wO_val (a_faddr (by exact rfl)) ?_; refine wO_val (a_store (by exact rfl) (by exact rfl) (by assumption) (by exact rfl) (by exact rfl)) ?_; refine wO_nil ?_; refine kR_k (by simp only [keepE, dstE, geT, paramsE, cond_true, cond_false, Nat.beq]; exact rfl) ?_; refine kS_n ?_; refine wE_seq ?_; refine wE_region ?_
      refine wO_val (a_loadN (by exact rfl) (by (simp (disch := first | omega | (simp only [z1, z2]; omega)) only [z3, z4, z5, z6, z7, z1, z2, *]; exact rfl)) (by exact rfl) (by exact rfl)) ?_
      refine wO_call (a_call (by exact rfl) (by exact rfl) (by exact rfl) (by exact rfl)) ?_
      have hx5 : Ext h (h3.wr h.next h.next (.cells [.slice (some ⟨b2, 0, none⟩) l'.length UNK, .int .i64 kerf] true 1)) := x3.wr (Nat.le_refl _) (Nat.le_refl _)
      have g7 : (h3.wr h.next h.next (.cells [.slice (some ⟨b2, 0, none⟩) l'.length UNK, .int .i64 kerf] true 1)).get b2 = some (.cells (kcs l' ++ t) true 5) := (z5 (by omega)).trans hb3
      have g8 : (h3.wr h.next h.next (.cells [.slice (some ⟨b2, 0, none⟩) l'.length UNK, .int .i64 kerf] true 1)).get (h.next + 1) = some (.cells [.slice none 0 0, .int .i64 0] true 1) := (z5 (by omega)).trans g6
      refine FW.al (changed113 G.toFnsE (.of (hx5.wf hr.wf)) ((er_slice (by show b2 < h3.next; omega) g7 rfl (by omega)).log []) kerf (by omega)) (fun _ _ _ q => q) ?_
      rintro _ h5 hx6 rfl
      have hN6 : h3.next ≤ h5.next := hx6.next
      have g9 := (hx6.old _ (show h.next + 1 < h3.next by omega)).trans g8
      have g10 := (hx6.old _ (show b2 < h3.next by omega)).trans g7
      unfold changedV
      simp only [hk, ↓reduceIte]
      refine wO_val (a_extract (by exact rfl) (by exact rfl)) ?_; refine wO_val (a_extract (by exact rfl) (by exact rfl)) ?_; refine wO_val (a_store (by exact rfl) (by exact rfl) (by assumption) (by exact rfl) (by exact rfl)) ?_; refine wO_val (a_mov (by exact rfl)) ?_; refine wO_nil ?_; refine kR_k (by simp only [keepE, dstE, geT, paramsE, cond_true, cond_false, Nat.beq]; exact rfl) ?_; refine kS_n ?_
      refine wE_ret ?_
      refine endA_ret (vs := [.agg (List.toArray [.slice (some ⟨b2, 0, none⟩) l'.length UNK, .int .i64 kerf]), .int .i64 0]) ((Heap.log_wr_new (Nat.le_succ _)).trans ((hx5.trans hx6).log.trans hr.log)) ?_ ?_
      · exact res_cells (b := h.next + 1) rfl (Heap.get_wr_new g9) rfl rfl (res_slot rfl res_nil)
      · refine SawQ.ret ?_
        exact er_slice (show b2 < h5.next by omega) ((z5 (show b2 ≠ h.next + 1 by omega)).trans g10) rfl (by omega)
  · simp only [if_neg ha]
    refine wD_quiet rfl rfl rfl (by exact rfl) (by exact rfl) (by exact rfl) (a_mov (by exact rfl)) ?_; refine wD_quiet rfl rfl rfl (by exact rfl) (by exact rfl) (by exact rfl) (a_extract (by exact rfl) (by exact rfl)) ?_; refine wD_quiet rfl rfl rfl (by exact rfl) (by exact rfl) (by exact rfl) (a_extract (by exact rfl) (by exact rfl)) ?_
    refine wD_quiet rfl rfl rfl (by exact rfl) (by exact rfl) (by exact rfl) (a_mov (by exact rfl)) ?_; refine wD_quiet rfl rfl rfl (by exact rfl) (by exact rfl) (by exact rfl) (a_mov (by exact rfl)) ?_; refine wD_nil ?_; refine kR_k (by simp only [keepE, dstE, geT, paramsE, cond_true, cond_false, Nat.beq]; exact rfl) ?_; refine kS_n ?_; refine wE_seq ?_; refine wE_region ?_
    refine wO_val (a_mov (by exact rfl)) ?_; refine wO_val (a_num (by exact rfl) (by exact rfl) (by exact m_neqT (by omega))) ?_; refine wO_nil ?_; refine kR_k (by simp only [keepE, dstE, geT, paramsE, cond_true, cond_false, Nat.beq]; exact rfl) ?_; refine kS_n ?_; refine wE_true (by exact rfl) ?_; refine wE_seq ?_; refine wE_region ?_; refine wO_val (a_build (by exact rfl)) ?_
    refine wO_val (a_mov (by exact rfl)) ?_; refine wO_val (a_store (by exact rfl) (by exact rfl) (by assumption) (by exact rfl) (by exact rfl)) ?_; refine wO_val (a_mov (by exact rfl)) ?_; refine wO_nil ?_; refine kR_k (by simp only [keepE, dstE, geT, paramsE, cond_true, cond_false, Nat.beq]; exact rfl) ?_; refine kS_n ?_; refine wE_ret ?_; refine kS_r ?_
    refine endA_ret (vs := [.agg (List.toArray [.slice none 0 0, .int .i64 0]), .int .i64 (asked kerf l (0 ≤ i ∧ i < l.length))]) ((Heap.log_wr_new (Nat.le_succ _)).trans (hx13.log.trans hr.log)) ?_ ?_
    · exact res_cells (b := h.next + 1) rfl (Heap.get_wr_new g2) rfl rfl (res_slot rfl res_nil)
    · exact SawQ.ret .nil
set_option maxHeartbeats 4000000 in
theorem without64 (G : FnsI T) {h : Heap} (hr : Rdy h) {a : Option Addr} {n c : Nat} {l : List Kd} (hs : SliceOf h 5 (.slice a n c) n (kcs l)) (kerf : Int) (hn : n < 1000000) (i : Int) :
    Al T 64 [.agg #[.slice a n c, .int .i64 kerf], .int .i64 i] h (orErr (asked kerf l (0 ≤ i ∧ i < n)) (SawQ 0 kerf (l.eraseIdx i.toNat))) := by
  refine .of G.p G.f64 hr (orErr.gc SawQ.gc) ?_
  have hx : Ext h ((h.push (.cells [.slice a n c, .int .i64 kerf] true 1)).push (.cells [.slice none 0 0, .int .i64 0] true 1)) := ((Ext.refl h).push _).push _
  obtain rfl : n = l.length := by have := hs.len; rw [kcs_length] at this; omega
  refine wE_seq ?_; refine wE_region ?_; refine wO_val (a_box (by exact rfl) (by exact rfl)) ?_; refine wO_val a_new ?_; refine wO_val (a_mov (by exact rfl)) ?_; refine wO_nil ?_; refine kR_k (by simp only [keepE, dstE, geT, paramsE, cond_true, cond_false, Nat.beq]; exact rfl) ?_; refine kS_n ?_; refine wE_seq ?_; refine wE_region ?_
  refine wO_val (a_loadN (by exact rfl) (by (simp (disch := first | omega | (simp only [z1, z2]; omega)) only [z3, z4, z5, z6, z7, z1, z2, *]; exact rfl)) (by exact rfl) (by exact rfl)) ?_; refine wO_val (a_mov (by exact rfl)) ?_
  refine wO_call (a_call (by exact rfl) (by exact rfl) (by exact rfl) (by exact rfl)) ?_
  refine FW.pu (askedKind99 G.toFnsD (.of (hx.wf hr.wf)) ((hs.ext hx).log []) kerf i hn) ?_
  unfold orErr
  by_cases ha : asked kerf l (0 ≤ i ∧ i < l.length) = 0
  · simp only [if_pos ha]
    have hP := asked_zero ha
    obtain ⟨j, rfl⟩ := Int.eq_ofNat_of_zero_le hP.2.1
    have hj : j < l.length := by omega
    have ej : (j : Int).toNat = j := rfl
    rw [ej]
    have hel := erase_len hj
    refine wO_val (a_mov (by exact rfl)) ?_; refine wO_nil ?_; refine kR_k (by simp only [keepE, dstE, geT, paramsE, cond_true, cond_false, Nat.beq]; exact rfl) ?_; refine kS_n ?_; refine wE_seq ?_; refine wE_seq ?_; refine wE_region ?_; refine wO_val (a_mov (by exact rfl)) ?_; refine wO_val (a_num (by exact rfl) (by exact rfl) (by exact m_neqF (by omega))) ?_; refine wO_nil ?_
    refine kR_k (by simp only [keepE, dstE, geT, paramsE, cond_true, cond_false, Nat.beq]; exact rfl) ?_; refine kS_n ?_; refine wE_false (by exact rfl) ?_; refine wE_skip ?_; refine kS_n ?_; refine wE_seq ?_; refine wE_region ?_
    refine wO_val (a_loadN (by exact rfl) (by (simp (disch := first | omega | (simp only [z1, z2]; omega)) only [z3, z4, z5, z6, z7, z1, z2, *]; exact rfl)) (by exact rfl) (by exact rfl)) ?_
    refine wO_call (a_call (by exact rfl) (by exact rfl) (by exact rfl) (by exact rfl)) ?_
    refine FW.al (copied115 G.toFnsG (.of (hx.wf hr.wf)) ((hs.ext hx).log []) kerf hn) (fun _ _ _ ⟨s, q1, q2⟩ => ⟨s, q1, q2.log _⟩) ?_
    rintro _ h2 hx4 ⟨s, rfl, hq⟩
    cases hq with
    | nil => simp at hj
    | empty => simp at hj
    | @full b2 n2 _ q1 q2 q3 q4 q5 =>
      subst q4
      have q1' : h.next + 2 ≤ b2 := q1
      have hN4 : h.next + 2 ≤ h2.next := hx4.next
      have g4 : h2.get (h.next + 1) = some (.cells [.slice none 0 0, .int .i64 0] true 1) := by rw [hx4.old _ (by (simp only [z1, z2]; omega))]; (simp (disch := first | omega | (simp only [z1, z2]; omega) | (simp only [z1, z2]; done) | fail) only [z8, z4, z5, z9, z7, z1, z2, *]; done)
      refine wO_val a_new ?_; refine wO_val (a_store (by exact rfl) (by exact rfl) (by (simp (disch := first | omega | (simp only [z1, z2]; omega)) only [z3, z4, z5, z6, z7, z1, z2, *]; exact rfl)) (by exact rfl) (by exact rfl)) ?_; refine wO_nil ?_
      refine kR_k (by simp only [keepE, dstE, geT, paramsE, cond_true, cond_false, Nat.beq]; exact rfl) ?_; refine kS_n ?_; refine wE_seq ?_; refine wE_draw ?_; refine wD_quiet rfl rfl rfl (by exact rfl) (by exact rfl) (by exact rfl) (a_faddr (by exact rfl)) ?_
      refine wD_quiet rfl rfl rfl (by exact rfl) (by exact rfl) (by exact rfl) (a_load (by exact rfl) (by (simp (disch := first | omega | (simp only [z1, z2]; omega)) only [z3, z4, z5, z6, z7, z1, z2, *]; exact rfl)) (by exact rfl)) ?_
      refine wD_quiet rfl rfl rfl (by exact rfl) (by exact rfl) (by exact rfl) (a_mov (by exact rfl)) ?_
      refine wD_quiet rfl rfl rfl (by exact rfl) (by exact rfl) (by exact rfl) (a_slice_hi (own := true) (vs := kcs l) (by exact rfl) (by exact rfl) (by (simp (disch := first | omega | (simp only [z1, z2]; omega)) only [z3, z4, z5, z6, z7, z1, z2, *]; done)) (by omega) (by omega)) ?_
      refine wD_quiet rfl rfl rfl (by exact rfl) (by exact rfl) (by exact rfl) (a_faddr (by exact rfl)) ?_
      refine wD_quiet rfl rfl rfl (by exact rfl) (by exact rfl) (by exact rfl) (a_load (by exact rfl) (by (simp (disch := first | omega | (simp only [z1, z2]; omega)) only [z3, z4, z5, z6, z7, z1, z2, *]; exact rfl)) (by exact rfl)) ?_
      refine wD_quiet rfl rfl rfl (by exact rfl) (by exact rfl) (by exact rfl) (a_mov (by exact rfl)) ?_; refine wD_quiet rfl rfl rfl (by exact rfl) (by exact rfl) (by exact rfl) (a_num (by exact rfl) (by exact rfl) (by exact m_inc (by omega))) ?_
      have x2 : Ext h (((h2.push (AObj.cells [.slice none 0 0, .int .i64 0] true 1)).wr h.next h2.next (.cells [.slice (some ⟨b2, 0, none⟩) l.length UNK, .int .i64 kerf] true 1))) := ((hx.trans hx4).push _).wr (show h.next ≤ h2.next by omega) (by omega)
      have gB : (((h2.push (AObj.cells [.slice none 0 0, .int .i64 0] true 1)).wr h.next h2.next (.cells [.slice (some ⟨b2, 0, none⟩) l.length UNK, .int .i64 kerf] true 1))).get b2 = some (.cells (kcs l) true 5) := by (simp (disch := first | omega | (simp only [z1, z2]; omega)) only [z3, z4, z5, z6, z7, z1, z2, *]; done)
      by_cases hc : j + 1 < l.length
      · refine wD_quiet rfl rfl rfl (by exact rfl) (by exact rfl) (by exact rfl) (a_slice_lo (by exact rfl) (by exact rfl) gB hc) ?_
        refine wD_app_fit (ws := kcs (l.eraseIdx j) ++ (kcs l).drop ((l.length - 1) * 5)) rfl rfl rfl (by exact rfl) (by exact rfl) (by exact rfl) (src_log (src_drop gB (by omega))) (by omega) gB (by rw [kcs_length]; omega) (ones_kcs _) (by omega) (kcs_put hj) (by (simp only [z1, z2]; omega)) (by apply ra_dropC rfl; apply ra_dropC rfl; apply ra_dropC rfl; apply ra_dropC rfl; apply ra_dropC rfl; apply ra_dropC rfl; apply ra_dropC rfl; apply ra_dropC rfl; apply ra_dropC rfl; exact ra_nil) ?_
        have en : j + (l.length - (j + 1)) = l.length - 1 := by omega
        rw [en]
        refine wD_quiet rfl rfl rfl (by exact rfl) (by exact rfl) (by exact rfl) (a_faddr (by exact rfl)) ?_
        refine wD_store rfl rfl rfl (by exact rfl) (by exact rfl) (by exact rfl) (by (simp (disch := first | omega | (simp only [z1, z2]; omega)) only [z3, z4, z5, z6, z7, z1, z2, *]; exact rfl)) (by exact rfl) (by exact rfl) (by (simp only [z1, z2]; omega)) (by omega) (by apply ra_dropC rfl; exact ra_nil) ?_
        refine wD_nil ?_; refine kR_k (by simp only [keepE, dstE, geT, paramsE, cond_true, cond_false, Nat.beq]; exact rfl) ?_; refine kS_n ?_; refine wE_seq ?_; refine wE_region ?_
        refine wO_val (a_loadN (by exact rfl) (by (simp (disch := first | omega | (simp only [z1, z2]; omega)) only [z3, z4, z5, z6, z7, z1, z2, *]; exact rfl)) (by exact rfl) (by exact rfl)) ?_
        refine wO_val (a_store (by exact rfl) (by exact rfl) (by (simp (disch := first | omega | (simp only [z1, z2]; omega)) only [z3, z4, z5, z6, z7, z1, z2, *]; exact rfl)) (by exact rfl) (by exact rfl)) ?_; refine wO_val (a_mov (by exact rfl)) ?_; refine wO_nil ?_
        refine kR_k (by simp only [keepE, dstE, geT, paramsE, cond_true, cond_false, Nat.beq]; exact rfl) ?_; refine kS_n ?_; refine wE_ret ?_
        refine endA_ret (vs := [.agg (List.toArray [.slice (some ⟨b2, 0, none⟩) (l.length - 1) UNK, .int .i64 kerf]), .int .i64 0]) ((Heap.log_wr_new (Nat.le_succ _)).trans ((Heap.log_wr_new (show h.next ≤ h2.next by omega)).trans ((Heap.log_wr_new (show h.next ≤ b2 by omega)).trans (x2.log.trans hr.log)))) ?_ ?_
        · exact res_cells (b := h.next + 1) rfl (by (simp (disch := first | omega | (simp only [z1, z2]; omega)) only [z3, z4, z5, z6, z7, z1, z2, *]; exact rfl)) rfl rfl (res_slot rfl res_nil)
        · refine SawQ.ret ?_
          exact er_slice (by (simp only [z1, z2]; omega)) (by (simp (disch := first | omega | (simp only [z1, z2]; omega)) only [z3, z4, z5, z6, z7, z1, z2, *]; exact rfl)) hel.symm (by omega)
      · have hie : j + 1 = l.length := by omega
        refine wD_slice_end rfl rfl rfl (by exact rfl) (by rfl) (fun _ => by exact rfl) (fun _ => by exact rfl) hie gB (by omega) (by (apply ra_dropC rfl); (apply ra_dropC rfl); (apply ra_dropC rfl); (apply ra_dropC rfl); (apply ra_keepC rfl (rq_quiet rfl (a_slice_hi (own := true) (vs := kcs l) (by exact rfl) (by exact rfl) (by (simp (disch := first | omega | (simp only [z1, z2]; omega)) only [z3, z4, z5, z6, z7, z1, z2, *]; done)) (by omega) (by omega)) (sv_slice _ _ _)) rfl); apply ra_keepC rfl (rq_quiet rfl (a_mov (by exact rfl)) (by exact sv_int _ _)) rfl; apply ra_keepC rfl (rq_quiet rfl (a_load (by exact rfl) (by (simp (disch := first | omega | (simp only [z1, z2]; omega)) only [z3, z4, z5, z6, z7, z1, z2, *]; exact rfl)) (by exact rfl)) (by exact sv_slice _ _ _)) rfl; apply ra_keepC rfl (rq_quiet rfl (a_faddr (by exact rfl)) (by exact sv_ptr _)) rfl; exact ra_nil) ?_
        refine wD_app_zero rfl rfl rfl (by exact rfl) (by exact rfl) (by exact rfl) (src_log (src_slice (cs := []) (z3 _ _) rfl rfl)) (by unfold UNK; omega) (by apply ra_dropC rfl; apply ra_dropC rfl; apply ra_dropC rfl; apply ra_dropC rfl; exact ra_nil) ?_
        rw [kcs_last hie] at gB q3
        refine wD_quiet rfl rfl rfl (by exact rfl) (by exact rfl) (by exact rfl) (a_faddr (by exact rfl)) ?_
        refine wD_store rfl rfl rfl (by exact rfl) (by exact rfl) (by exact rfl) (by (simp (disch := first | omega | (simp only [z1, z2]; omega)) only [z3, z4, z5, z6, z7, z1, z2, *]; exact rfl)) (by exact rfl) (by exact rfl) (by (simp only [z1, z2]; omega)) (by omega) (by apply ra_dropC rfl; exact ra_nil) ?_
        refine wD_nil ?_; refine kR_k (by simp only [keepE, dstE, geT, paramsE, cond_true, cond_false, Nat.beq]; exact rfl) ?_; refine kS_n ?_; refine wE_seq ?_; refine wE_region ?_
        refine wO_val (a_loadN (by exact rfl) (by (simp (disch := first | omega | (simp only [z1, z2]; omega)) only [z3, z4, z5, z6, z7, z1, z2, *]; exact rfl)) (by exact rfl) (by exact rfl)) ?_
        refine wO_val (a_store (by exact rfl) (by exact rfl) (by (simp (disch := first | omega | (simp only [z1, z2]; omega)) only [z3, z4, z5, z6, z7, z1, z2, *]; exact rfl)) (by exact rfl) (by exact rfl)) ?_; refine wO_val (a_mov (by exact rfl)) ?_; refine wO_nil ?_
        refine kR_k (by simp only [keepE, dstE, geT, paramsE, cond_true, cond_false, Nat.beq]; exact rfl) ?_; refine kS_n ?_; refine wE_ret ?_
        refine endA_ret (vs := [.agg (List.toArray [.slice (some ⟨b2, 0, none⟩) j UNK, .int .i64 kerf]), .int .i64 0]) ((Heap.log_wr_new (Nat.le_succ _)).trans ((Heap.log_wr_new (show h.next ≤ h2.next by omega)).trans (x2.log.trans hr.log))) ?_ ?_
        · exact res_cells (b := h.next + 1) rfl (by (simp (disch := first | omega | (simp only [z1, z2]; omega)) only [z3, z4, z5, z6, z7, z1, z2, *]; exact rfl)) rfl rfl (res_slot rfl res_nil)
        · refine SawQ.ret ?_
          exact er_slice (by (simp only [z1, z2]; omega)) (by (simp (disch := first | omega | (simp only [z1, z2]; omega)) only [z3, z4, z5, z6, z7, z1, z2, *]; exact rfl)) (by omega) (by omega)
  · simp only [if_neg ha]
    refine wO_val (a_mov (by exact rfl)) ?_; refine wO_nil ?_; refine kR_k (by simp only [keepE, dstE, geT, paramsE, cond_true, cond_false, Nat.beq]; exact rfl) ?_; refine kS_n ?_; refine wE_seq ?_; refine wE_seq ?_; refine wE_region ?_; refine wO_val (a_mov (by exact rfl)) ?_; refine wO_val (a_num (by exact rfl) (by exact rfl) (by exact m_neqT (by omega))) ?_; refine wO_nil ?_
    refine kR_k (by simp only [keepE, dstE, geT, paramsE, cond_true, cond_false, Nat.beq]; exact rfl) ?_; refine kS_n ?_; refine wE_true (by exact rfl) ?_; refine wE_seq ?_; refine wE_region ?_; refine wO_val (a_build (by exact rfl)) ?_; refine wO_val (a_mov (by exact rfl)) ?_
    refine wO_val (a_store (by exact rfl) (by exact rfl) (by (simp (disch := first | omega | (simp only [z1, z2]; omega) | (simp only [z1, z2]; done) | fail) only [z8, z4, z5, z9, z7, z1, z2, *]; exact rfl)) (by exact rfl) (by exact rfl)) ?_
    refine wO_val (a_mov (by exact rfl)) ?_; refine wO_nil ?_; refine kR_k (by simp only [keepE, dstE, geT, paramsE, cond_true, cond_false, Nat.beq]; exact rfl) ?_; refine kS_n ?_; refine wE_ret ?_; refine kS_r ?_
    refine endA_ret (vs := [.agg (List.toArray [.slice none 0 0, .int .i64 0]), .int .i64 (asked kerf l (0 ≤ i ∧ i < l.length))]) ((Heap.log_wr_new (Nat.le_succ _)).trans (hx.log.trans hr.log)) ?_ ?_
    · exact res_cells (b := h.next + 1) rfl (by (simp (disch := first | omega | (simp only [z1, z2]; omega) | (simp only [z1, z2]; done) | fail) only [z8, z4, z5, z9, z7, z1, z2, *]; exact rfl)) rfl rfl (res_slot rfl res_nil)
    · exact SawQ.ret .nil
end Go.A.Pk
end
