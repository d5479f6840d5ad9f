/- Walks of functions that make saws. -/
import Derived.Test.YteafdpbjocdbbaaGreatDoorKU
import Derived.Test.YteafdpbjocdbbaaGreatDoorKD
set_option linter.all false
section
set_option maxRecDepth 100000
namespace Go.A.Pk
variable {T : Nat → Option AFunc}
theorem ones_kcs : ∀ (l : List Kd), ones (kcs l) = true
  | [] => rfl
  | k :: l => by
    have := ones_kcs l
    simp only [kcs, kc, List.cons_append, List.nil_append, ones]; exact this
inductive OwnK (lo : Nat) (h : Heap) : Value → List Kd → Prop
  | nil : OwnK lo h (.slice none 0 0) []
  | empty {b} : lo ≤ b → b < h.next → h.get b = some (.cells [] true 5) → OwnK lo h (.slice (some ⟨b, 0, none⟩) 0 0) []
  | full {b n l} : lo ≤ b → b < h.next → h.get b = some (.cells (kcs l) true 5) → n = l.length → n ≠ 0 → OwnK lo h (.slice (some ⟨b, 0, none⟩) n UNK) l
theorem OwnK.slice {lo : Nat} {h : Heap} {v : Value} {l : List Kd} (s : OwnK lo h v l) (hn : l.length < 1000000) : SliceOf h 5 v l.length (kcs l) := by
  cases s with
  | nil => exact .nil
  | empty h1 h2 h3 => exact .mem ⟨h2, ⟨_, _, _, h3, rfl⟩, rfl⟩ (Nat.le_refl _)
  | full h1 h2 h3 h4 h5 =>
    subst h4
    refine .mem ⟨h2, ⟨_, _, _, h3, ?_⟩, kcs_length l⟩ (by unfold UNK; omega)
    rw [ltake_eq, ldrop_eq, List.drop_zero, List.take_of_length_le (by rw [kcs_length]; exact Nat.le_refl _)]
theorem OwnK.log {lo : Nat} {h : Heap} {v : Value} {l : List Kd} (s : OwnK lo h v l) (m : List Nat) : OwnK lo { h with log := m } v l := by
  cases s with
  | nil => exact .nil
  | empty h1 h2 h3 => exact .empty h1 h2 h3
  | full h1 h2 h3 h4 h5 => exact .full h1 h2 h3 h4 h5
theorem OwnK.low {lo lo' : Nat} {h : Heap} {v : Value} {l : List Kd} (s : OwnK lo h v l) (hl : lo' ≤ lo) : OwnK lo' h v l := by
  cases s with
  | nil => exact .nil
  | empty h1 h2 h3 => exact .empty (by omega) h2 h3
  | full h1 h2 h3 h4 h5 => exact .full (by omega) h2 h3 h4 h5
theorem OwnK.ext {lo : Nat} {h h' : Heap} {v : Value} {l : List Kd} (s : OwnK lo h v l) (x : Ext h h') : OwnK lo h' v l := by
  have hx := x.next
  cases s with
  | nil => exact .nil
  | empty h1 h2 h3 => exact .empty h1 (by omega) ((x.old _ h2).trans h3)
  | full h1 h2 h3 h4 h5 => exact .full h1 (by omega) ((x.old _ h2).trans h3) h4 h5
def SawQ (er kerf : Int) (l : List Kd) (v : Value) (h : Heap) : Prop := ∃ s, v = .tuple #[.agg #[s, .int .i64 kerf], .int .i64 er] ∧ SliceOf h 5 s l.length (kcs l)
theorem SawQ.log {er kerf : Int} {l : List Kd} (v : Value) (h' : Heap) (m : List Nat) (q : SawQ er kerf l v h') : SawQ er kerf l v { h' with log := m } := by
  obtain ⟨s, h1, h2⟩ := q
  exact ⟨s, h1, h2.log m⟩
theorem SawQ.gc {er kerf : Int} {l : List Kd} {h : Heap} (v : Value) (h1 : Heap) (hv : noRef v = true) (q : SawQ er kerf l v h1) : SawQ er kerf l v h := by
  obtain ⟨s, rfl, h2⟩ := q
  refine ⟨s, rfl, ?_⟩
  generalize l.length = n at *
  generalize kcs l = cs at *
  cases h2 with
  | nil => exact .nil
  | mem s _ => simp [noRef, flatL, flat, scalL, scal, scal1] at hv
structure FnsE (T : Nat → Option AFunc) : Prop extends FnsA T, FnsC T where
  f75 : T 75 = some f75
  f96 : T 96 = some f96
  f113 : T 113 = some f113
structure FnsG (T : Nat → Option AFunc) : Prop extends FnsD T where
  f115 : T 115 = some f115
  f116 : T 116 = some f116
theorem askedKind99 (F : FnsD T) {h : Heap} (hr : Rdy h) {a : Option Addr} {n c : Nat} {l : List Kd} (hs : SliceOf h 5 (.slice a n c) n (kcs l)) (kerf kind : Int) (hn : n < 1000000) :
    Pu T 99 [.agg #[.slice a n c, .int .i64 kerf], .int .i64 1, .int .i64 1, .int .i64 kind] h (.int .i64 (asked kerf l (0 ≤ kind ∧ kind < n))) := by
  refine .of F.p F.f99 hr rfl ?_
  have hx : Ext h (h.push (.cells [.slice a n c, .int .i64 kerf] true 1)) := (Ext.refl h).push _
  have c79 := asked79 F (.of (hr.wf.push (.cells [.slice a n c, .int .i64 kerf] true 1))) ((hs.ext hx).log []) kerf 1 1 hn
  have e79 : asked kerf l ((1 ≤ (1 : Int) ∧ (1 : Int) ≤ 16) ∧ (1 ≤ (1 : Int) ∧ (1 : Int) ≤ 16)) = chk kerf l := by unfold asked; split <;> simp_all
  rw [e79] at c79
  have hsub : wrapA .i64 ((n : Int) - 1) = (n : Int) - 1 := wrapA_i64 (by omega) (by omega)
  unfold asked
  by_cases hc : chk kerf l = 0
  · rw [if_pos hc]
    by_cases c1 : 0 ≤ kind ∧ kind < n
    · rw [if_pos c1]
      refine wE_seq ?_; refine wE_region ?_; refine wO_val (a_box (by exact rfl) (by exact rfl)) ?_; refine wO_val (a_mov (by exact rfl)) ?_; refine wO_nil ?_; refine kR_k (by simp only [keepE, dstE, geT, paramsE, cond_true, cond_false, Nat.beq]; exact rfl) ?_; refine kS_n ?_; refine wE_seq ?_; refine wE_region ?_
      refine wO_val (a_loadN (by exact rfl) (by (simp (disch := first | omega | (simp only [z1, z2]; omega)) only [z3, z4, z5, z6, z7, z1, z2, *]; exact rfl)) (by exact rfl) (by exact rfl)) ?_; refine wO_val (a_mov (by exact rfl)) ?_; refine wO_val (a_mov (by exact rfl)) ?_
      refine wO_call (a_call (by exact rfl) (by exact rfl) (by exact rfl) (by exact rfl)) ?_
      refine FW.pu c79 ?_
      refine wO_val (a_mov (by exact rfl)) ?_; refine wO_nil ?_; refine kR_k (by simp only [keepE, dstE, geT, paramsE, cond_true, cond_false, Nat.beq]; exact rfl) ?_; refine kS_n ?_; refine wE_seq ?_; refine wE_seq ?_; refine wE_region ?_; refine wO_val (a_mov (by exact rfl)) ?_; refine wO_val (a_num (by exact rfl) (by exact rfl) (by exact m_eqlT (by omega))) ?_; refine wO_val (a_mov (by exact rfl)) ?_
      refine wO_on (by exact rfl) ?_; refine wO_val (a_mov (by exact rfl)) ?_; refine wO_on (by exact rfl) ?_; refine wO_val (a_faddr (by exact rfl)) ?_; refine wO_on (by exact rfl) ?_
      refine wO_val (a_load (by exact rfl) (by (simp (disch := first | omega | (simp only [z1, z2]; omega)) only [z3, z4, z5, z6, z7, z1, z2, *]; exact rfl)) (by exact rfl)) ?_; refine wO_on (by exact rfl) ?_; refine wO_val (a_len1 (by exact rfl)) ?_; refine wO_on (by exact rfl) ?_
      refine wO_val (a_num (by exact rfl) (by exact rfl) (m_sub hsub)) ?_
      refine wO_on (by exact rfl) ?_
      refine wO_call (a_call (by exact rfl) (by exact rfl) (by exact rfl) (by exact rfl)) ?_
      refine FW.pu (in80T F.p F.f80 (.of (hr.wf.push _)) (by omega)) ?_
      refine wO_on (by exact rfl) ?_; refine wO_val (a_not (by exact rfl)) ?_; refine wO_val (a_pickT (by exact rfl) (by exact rfl)) ?_; refine wO_nil ?_; refine kR_k (by simp only [keepE, dstE, geT, paramsE, cond_true, cond_false, Nat.beq]; exact rfl) ?_; refine kS_n ?_; refine wE_false (by exact rfl) ?_; refine wE_skip ?_; refine kS_n ?_; refine wE_seq ?_; refine wE_region ?_
      refine wO_val (a_mov (by exact rfl)) ?_; refine wO_val (a_mov (by exact rfl)) ?_; refine wO_nil ?_; refine kR_k (by simp only [keepE, dstE, geT, paramsE, cond_true, cond_false, Nat.beq]; exact rfl) ?_; refine kS_n ?_; refine wE_ret ?_
      refine endP_ret hr.log rfl ?_
      show Value.int .i64 (chk kerf l) = _
      rw [hc]
    · rw [if_neg c1]
      refine wE_seq ?_; refine wE_region ?_; refine wO_val (a_box (by exact rfl) (by exact rfl)) ?_; refine wO_val (a_mov (by exact rfl)) ?_; refine wO_nil ?_; refine kR_k (by simp only [keepE, dstE, geT, paramsE, cond_true, cond_false, Nat.beq]; exact rfl) ?_; refine kS_n ?_; refine wE_seq ?_; refine wE_region ?_
      refine wO_val (a_loadN (by exact rfl) (by (simp (disch := first | omega | (simp only [z1, z2]; omega)) only [z3, z4, z5, z6, z7, z1, z2, *]; exact rfl)) (by exact rfl) (by exact rfl)) ?_; refine wO_val (a_mov (by exact rfl)) ?_; refine wO_val (a_mov (by exact rfl)) ?_
      refine wO_call (a_call (by exact rfl) (by exact rfl) (by exact rfl) (by exact rfl)) ?_
      refine FW.pu c79 ?_
      refine wO_val (a_mov (by exact rfl)) ?_; refine wO_nil ?_; refine kR_k (by simp only [keepE, dstE, geT, paramsE, cond_true, cond_false, Nat.beq]; exact rfl) ?_; refine kS_n ?_; refine wE_seq ?_; refine wE_seq ?_; refine wE_region ?_; refine wO_val (a_mov (by exact rfl)) ?_; refine wO_val (a_num (by exact rfl) (by exact rfl) (by exact m_eqlT (by omega))) ?_; refine wO_val (a_mov (by exact rfl)) ?_
      refine wO_on (by exact rfl) ?_; refine wO_val (a_mov (by exact rfl)) ?_; refine wO_on (by exact rfl) ?_; refine wO_val (a_faddr (by exact rfl)) ?_; refine wO_on (by exact rfl) ?_
      refine wO_val (a_load (by exact rfl) (by (simp (disch := first | omega | (simp only [z1, z2]; omega)) only [z3, z4, z5, z6, z7, z1, z2, *]; exact rfl)) (by exact rfl)) ?_; refine wO_on (by exact rfl) ?_; refine wO_val (a_len1 (by exact rfl)) ?_; refine wO_on (by exact rfl) ?_
      refine wO_val (a_num (by exact rfl) (by exact rfl) (m_sub hsub)) ?_
      refine wO_on (by exact rfl) ?_
      refine wO_call (a_call (by exact rfl) (by exact rfl) (by exact rfl) (by exact rfl)) ?_
      refine FW.pu (in80F F.p F.f80 (.of (hr.wf.push _)) (by omega)) ?_
      refine wO_on (by exact rfl) ?_; refine wO_val (a_not (by exact rfl)) ?_; refine wO_val (a_pickT (by exact rfl) (by exact rfl)) ?_; refine wO_nil ?_; refine kR_k (by simp only [keepE, dstE, geT, paramsE, cond_true, cond_false, Nat.beq]; exact rfl) ?_; refine kS_n ?_; refine wE_true (by exact rfl) ?_; refine wE_region ?_; refine wO_val (a_mov (by exact rfl)) ?_; refine wO_nil ?_
      refine kR_k (by simp only [keepE, dstE, geT, paramsE, cond_true, cond_false, Nat.beq]; exact rfl) ?_; refine kS_n ?_; refine wE_seq ?_; refine wE_region ?_; refine wO_val (a_mov (by exact rfl)) ?_; refine wO_val (a_mov (by exact rfl)) ?_; refine wO_nil ?_; refine kR_k (by simp only [keepE, dstE, geT, paramsE, cond_true, cond_false, Nat.beq]; exact rfl) ?_; refine kS_n ?_; refine wE_ret ?_
      exact endP_ret hr.log rfl rfl
  · rw [if_neg hc]
    refine wE_seq ?_; refine wE_region ?_; refine wO_val (a_box (by exact rfl) (by exact rfl)) ?_; refine wO_val (a_mov (by exact rfl)) ?_; refine wO_nil ?_; refine kR_k (by simp only [keepE, dstE, geT, paramsE, cond_true, cond_false, Nat.beq]; exact rfl) ?_; refine kS_n ?_; refine wE_seq ?_; refine wE_region ?_
    refine wO_val (a_loadN (by exact rfl) (by (simp (disch := first | omega | (simp only [z1, z2]; omega)) only [z3, z4, z5, z6, z7, z1, z2, *]; exact rfl)) (by exact rfl) (by exact rfl)) ?_; refine wO_val (a_mov (by exact rfl)) ?_; refine wO_val (a_mov (by exact rfl)) ?_
    refine wO_call (a_call (by exact rfl) (by exact rfl) (by exact rfl) (by exact rfl)) ?_
    refine FW.pu c79 ?_
    refine wO_val (a_mov (by exact rfl)) ?_; refine wO_nil ?_; refine kR_k (by simp only [keepE, dstE, geT, paramsE, cond_true, cond_false, Nat.beq]; exact rfl) ?_; refine kS_n ?_; refine wE_seq ?_; refine wE_seq ?_; refine wE_region ?_; refine wO_val (a_mov (by exact rfl)) ?_; refine wO_val (a_num (by exact rfl) (by exact rfl) (by exact m_eqlF (by omega))) ?_; refine wO_val (a_mov (by exact rfl)) ?_
    refine wO_off (by exact rfl) (by exact rfl) ?_; refine wO_off (by exact rfl) (by exact rfl) ?_; refine wO_off (by exact rfl) (by exact rfl) ?_; refine wO_off (by exact rfl) (by exact rfl) ?_; refine wO_off (by exact rfl) (by exact rfl) ?_; refine wO_off (by exact rfl) (by exact rfl) ?_; refine wO_off (by exact rfl) (by exact rfl) ?_; refine wO_val (a_pickF (by exact rfl) (by exact rfl)) ?_
    refine wO_nil ?_; refine kR_k (by simp only [keepE, dstE, geT, paramsE, cond_true, cond_false, Nat.beq]; exact rfl) ?_; refine kS_n ?_; refine wE_false (by exact rfl) ?_; refine wE_skip ?_; refine kS_n ?_; refine wE_seq ?_; refine wE_region ?_; refine wO_val (a_mov (by exact rfl)) ?_; refine wO_val (a_mov (by exact rfl)) ?_; refine wO_nil ?_
    refine kR_k (by simp only [keepE, dstE, geT, paramsE, cond_true, cond_false, Nat.beq]; exact rfl) ?_; refine kS_n ?_; refine wE_ret ?_
    exact endP_ret hr.log rfl rfl
theorem OwnK.gc {lo : Nat} {l : List Kd} {h : Heap} (v : Value) (h1 : Heap) (hv : noRef v = true) (q : OwnK lo h1 v l) : OwnK lo h v l := by
  cases q with
  | nil => exact .nil
  | empty => simp [noRef, flat, scal, scal1] at hv
  | full => simp [noRef, flat, scal, scal1] at hv
theorem clone96 (F : FnsE T) {h : Heap} (hr : Rdy h) {a : Option Addr} {n c : Nat} {l : List Kd} (hs : SliceOf h 5 (.slice a n c) n (kcs l)) (hn : n < 1000000) : Al T 96 [.slice a n c] h fun v h' => OwnK h.next h' v l := by
  have hlen : l.length = n := by have := hs.len; rw [kcs_length] at this; omega
  refine .of F.toFnsA.p F.f96 hr OwnK.gc ?_
  rcases hs.inv with ⟨_, hv, h0, hl⟩ | ⟨b, o, cap, hv, s, hc⟩
  · cases hv
    obtain rfl : l = [] := by cases l with | nil => rfl | cons k l => simp [kcs, kc] at hl
    refine wE_seq ?_; refine wE_region ?_; refine wO_val (a_mov (by exact rfl)) ?_; refine wO_nil ?_; refine kR_k (by simp only [keepE, dstE, geT, paramsE, cond_true, cond_false, Nat.beq]; exact rfl) ?_; refine kS_n ?_; refine wE_seq ?_; refine wE_seq ?_; refine wE_region ?_; refine wO_val (a_mov (by exact rfl)) ?_
    refine wO_val (a_nil (by exact rfl) (by exact rfl) rfl) ?_
    refine wO_nil ?_; refine kR_k (by simp only [keepE, dstE, geT, paramsE, cond_true, cond_false, Nat.beq]; exact rfl) ?_; refine kS_n ?_; refine wE_true (by exact rfl) ?_; refine wE_seq ?_; refine wE_region ?_; refine wO_val (a_mov (by exact rfl)) ?_; refine wO_nil ?_; refine kR_k (by simp only [keepE, dstE, geT, paramsE, cond_true, cond_false, Nat.beq]; exact rfl) ?_; refine kS_n ?_; refine wE_ret ?_
    refine kS_r ?_
    exact endA_ret hr.log rfl .nil
  · cases hv
    refine wE_seq ?_; refine wE_region ?_; refine wO_val (a_mov (by exact rfl)) ?_; refine wO_nil ?_; refine kR_k (by simp only [keepE, dstE, geT, paramsE, cond_true, cond_false, Nat.beq]; exact rfl) ?_; refine kS_n ?_; refine wE_seq ?_; refine wE_seq ?_; refine wE_region ?_; refine wO_val (a_mov (by exact rfl)) ?_
    refine wO_val (a_nil (by exact rfl) (by exact rfl) rfl) ?_
    refine wO_nil ?_; refine kR_k (by simp only [keepE, dstE, geT, paramsE, cond_true, cond_false, Nat.beq]; exact rfl) ?_; refine kS_n ?_; refine wE_false (by exact rfl) ?_; refine wE_skip ?_; refine kS_n ?_; refine wE_seq ?_; refine wE_region ?_; refine wO_val (a_bslice (by exact rfl) (by exact rfl)) ?_; refine wO_val (a_mov (by exact rfl)) ?_
    by_cases h0 : n = 0
    · subst h0
      obtain rfl : l = [] := List.length_eq_zero_iff.1 hlen
      refine wO_val (a_app_zero (by exact rfl) (by exact rfl) (src_of (hs.ext ((Ext.refl h).push _))) (Nat.le_refl _)) ?_
      refine wO_val (a_mov (by exact rfl)) ?_; refine wO_nil ?_; refine kR_k (by simp only [keepE, dstE, geT, paramsE, cond_true, cond_false, Nat.beq]; exact rfl) ?_; refine kS_n ?_; refine wE_ret ?_
      exact endA_ret hr.log rfl (.empty (Nat.le_refl _) (Nat.lt_succ_self _) (z3 _ _))
    · refine wO_val (a_app_full (ws := kcs l) (by exact rfl) (by exact rfl) (src_of (hs.ext ((Ext.refl h).push _))) h0 (by omega) (by unfold UNK; omega) (z3 _ _) (Nat.le_refl _) (by omega) rfl) ?_
      refine wO_val (a_mov (by exact rfl)) ?_; refine wO_nil ?_; refine kR_k (by simp only [keepE, dstE, geT, paramsE, cond_true, cond_false, Nat.beq]; exact rfl) ?_; refine kS_n ?_; refine wE_ret ?_
      refine endA_ret hr.log rfl ?_
      have : OwnK h.next ((h.push (.cells [] true 5)).push (.cells (kcs l) true 5)) (.slice (some ⟨h.next + 1, 0, none⟩) n UNK) l := .full (Nat.le_succ _) (Nat.lt_succ_self _) (z3 _ _) hlen.symm h0
      have e0 : 0 + n = n := Nat.zero_add n
      rw [e0]
      exact this
end Go.A.Pk
end
section
set_option maxRecDepth 100000
namespace Go.A.Pk
variable {T : Nat → Option AFunc}
theorem SawQ.ret {er kerf : Int} {l : List Kd} {h : Heap} {s : Value} (h2 : SliceOf h 5 s l.length (kcs l)) : SawQ er kerf l (oneV [.agg (List.toArray [s, .int .i64 kerf]), .int .i64 er]) h := ⟨s, rfl, h2⟩
def changedV (s : Value) (kerf : Int) (l : List Kd) : Value := if chk kerf l = 0 then .tuple #[.agg #[s, .int .i64 kerf], .int .i64 0] else .tuple #[.agg #[.slice none 0 0, .int .i64 0], .int .i64 (chk kerf l)]
theorem changed116 (G : FnsG T) {h : Heap} (hr : Rdy h) {a : Option Addr} {n c : Nat} {l : List Kd} (hs : SliceOf h 5 (.slice a n c) n (kcs l)) (kerf : Int) (hn : n < 1000000) :
    Al T 116 [.agg #[.slice a n c, .int .i64 kerf]] h fun v _ => v = changedV (.slice a n c) kerf l := by
  refine .of G.p G.f116 hr (fun _ _ _ q => q) ?_
  have hx : Ext h ((h.push (.cells [.slice a n c, .int .i64 kerf] true 1)).push (.cells [.slice none 0 0, .int .i64 0] true 1)) := ((Ext.refl h).push _).push _
  have hlen : l.length = n := by have := hs.len; rw [kcs_length] at this; omega
  refine wE_seq ?_; refine wE_region ?_; refine wO_val (a_box (by exact rfl) (by exact rfl)) ?_; refine wO_val a_new ?_; refine wO_val (a_mov (by exact rfl)) ?_; refine wO_nil ?_; refine kR_k (by simp only [keepE, dstE, geT, paramsE, cond_true, cond_false, Nat.beq]; exact rfl) ?_; refine kS_n ?_; refine wE_seq ?_; refine wE_region ?_
  refine wO_val (a_loadN (by exact rfl) (by (simp (disch := first | omega | (simp only [z1, z2]; omega)) only [z3, z4, z5, z6, z7, z1, z2, *]; exact rfl)) (by exact rfl) (by exact rfl)) ?_
  refine wO_call (a_call (by exact rfl) (by exact rfl) (by exact rfl) (by exact rfl)) ?_
  refine FW.pu (check67 G.toFnsB (.of (hx.wf hr.wf)) ((hs.ext hx).log []) kerf hn) ?_
  by_cases hc : chk kerf l = 0
  · unfold changedV; rw [if_pos hc, hc]
    refine wO_val (a_mov (by exact rfl)) ?_; refine wO_nil ?_; refine kR_k (by simp only [keepE, dstE, geT, paramsE, cond_true, cond_false, Nat.beq]; exact rfl) ?_; refine kS_n ?_; refine wE_seq ?_; refine wE_seq ?_; refine wE_region ?_; refine wO_val (a_mov (by exact rfl)) ?_; refine wO_val (a_num (by exact rfl) (by exact rfl) (by exact m_neqF (by omega))) ?_; refine wO_nil ?_
    refine kR_k (by simp only [keepE, dstE, geT, paramsE, cond_true, cond_false, Nat.beq]; exact rfl) ?_; refine kS_n ?_; refine wE_false (by exact rfl) ?_; refine wE_skip ?_; refine kS_n ?_; refine wE_seq ?_; refine wE_region ?_
    refine wO_val (a_loadN (by exact rfl) (by (simp (disch := first | omega | (simp only [z1, z2]; omega)) only [z3, z4, z5, z6, z7, z1, z2, *]; exact rfl)) (by exact rfl) (by exact rfl)) ?_
    refine wO_val (a_store (by exact rfl) (by exact rfl) (by (simp (disch := first | omega | (simp only [z1, z2]; omega) | (simp only [z1, z2]; done) | fail) only [z8, z4, z5, z9, z7, z1, z2, *]; exact rfl)) (by exact rfl) (by exact rfl)) ?_
    refine wO_val (a_mov (by exact rfl)) ?_; refine wO_nil ?_; refine kR_k (by simp only [keepE, dstE, geT, paramsE, cond_true, cond_false, Nat.beq]; exact rfl) ?_; refine kS_n ?_; refine wE_ret ?_
    refine endA_ret (vs := [.agg (List.toArray [.slice a n c, .int .i64 kerf]), .int .i64 0]) ((Heap.log_wr_new (Nat.le_succ _)).trans hr.log) ?_ ?_
    · exact res_cells (b := h.next + 1) rfl (by (simp (disch := first | omega | (simp only [z1, z2]; omega) | (simp only [z1, z2]; done) | fail) only [z8, z4, z5, z9, z7, z1, z2, *]; exact rfl)) rfl rfl (res_slot rfl res_nil)
    · rfl
  · unfold changedV; rw [if_neg hc]
    refine wO_val (a_mov (by exact rfl)) ?_; refine wO_nil ?_; refine kR_k (by simp only [keepE, dstE, geT, paramsE, cond_true, cond_false, Nat.beq]; exact rfl) ?_; refine kS_n ?_; refine wE_seq ?_; refine wE_seq ?_; refine wE_region ?_; refine wO_val (a_mov (by exact rfl)) ?_; refine wO_val (a_num (by exact rfl) (by exact rfl) (by exact m_neqT (by omega))) ?_; refine wO_nil ?_
    refine kR_k (by simp only [keepE, dstE, geT, paramsE, cond_true, cond_false, Nat.beq]; exact rfl) ?_; refine kS_n ?_; refine wE_true (by exact rfl) ?_; refine wE_seq ?_; refine wE_region ?_; refine wO_val (a_build (by exact rfl)) ?_; refine wO_val (a_mov (by exact rfl)) ?_
    refine wO_val (a_store (by exact rfl) (by exact rfl) (by (simp (disch := first | omega | (simp only [z1, z2]; omega) | (simp only [z1, z2]; done) | fail) only [z8, z4, z5, z9, z7, z1, z2, *]; exact rfl)) (by exact rfl) (by exact rfl)) ?_
    refine wO_val (a_mov (by exact rfl)) ?_; refine wO_nil ?_; refine kR_k (by simp only [keepE, dstE, geT, paramsE, cond_true, cond_false, Nat.beq]; exact rfl) ?_; refine kS_n ?_; refine wE_ret ?_; refine kS_r ?_
    refine endA_ret (vs := [.agg (List.toArray [.slice none 0 0, .int .i64 0]), .int .i64 (chk kerf l)]) ((Heap.log_wr_new (Nat.le_succ _)).trans hr.log) ?_ ?_
    · exact res_cells (b := h.next + 1) rfl (by (simp (disch := first | omega | (simp only [z1, z2]; omega) | (simp only [z1, z2]; done) | fail) only [z8, z4, z5, z9, z7, z1, z2, *]; exact rfl)) rfl rfl (res_slot rfl res_nil)
    · rfl
theorem changed113 (G : FnsE T) {h : Heap} (hr : Rdy h) {a : Option Addr} {n c : Nat} {l : List Kd} (hs : SliceOf h 5 (.slice a n c) n (kcs l)) (kerf : Int) (hn : n < 1000000) :
    Al T 113 [.agg #[.slice a n c, .int .i64 kerf]] h fun v _ => v = changedV (.slice a n c) kerf l := by
  refine .of G.toFnsA.p G.f113 hr (fun _ _ _ q => q) ?_
  have hx : Ext h ((h.push (.cells [.slice a n c, .int .i64 kerf] true 1)).push (.cells [.slice none 0 0, .int .i64 0] true 1)) := ((Ext.refl h).push _).push _
  have hlen : l.length = n := by have := hs.len; rw [kcs_length] at this; omega
  refine wE_seq ?_; refine wE_region ?_; refine wO_val (a_box (by exact rfl) (by exact rfl)) ?_; refine wO_val a_new ?_; refine wO_val (a_mov (by exact rfl)) ?_; refine wO_nil ?_; refine kR_k (by simp only [keepE, dstE, geT, paramsE, cond_true, cond_false, Nat.beq]; exact rfl) ?_; refine kS_n ?_; refine wE_seq ?_; refine wE_seq ?_; refine wE_region ?_
  refine wO_val (a_loadN (by exact rfl) (by (simp (disch := first | omega | (simp only [z1, z2]; omega)) only [z3, z4, z5, z6, z7, z1, z2, *]; exact rfl)) (by exact rfl) (by exact rfl)) ?_
  refine wO_call (a_call (by exact rfl) (by exact rfl) (by exact rfl) (by exact rfl)) ?_
  refine FW.pu (check66 G.toFnsA (.of (hx.wf hr.wf)) ((hs.ext hx).log []) kerf hn) ?_
  by_cases hc : chk kerf l = 0
  · unfold changedV; rw [if_pos hc, hc]
    refine wO_val (a_mov (by exact rfl)) ?_; refine wO_nil ?_; refine kR_k (by simp only [keepE, dstE, geT, paramsE, cond_true, cond_false, Nat.beq]; exact rfl) ?_; refine kS_n ?_; refine wE_seq ?_; refine wE_region ?_; refine wO_val (a_mov (by exact rfl)) ?_; refine wO_val (a_num (by exact rfl) (by exact rfl) (by exact m_neqF (by omega))) ?_; refine wO_nil ?_
    refine kR_k (by simp only [keepE, dstE, geT, paramsE, cond_true, cond_false, Nat.beq]; exact rfl) ?_; refine kS_n ?_; refine wE_false (by exact rfl) ?_; refine wE_skip ?_; refine kS_n ?_; refine wE_seq ?_; refine wE_region ?_
    refine wO_val (a_loadN (by exact rfl) (by (simp (disch := first | omega | (simp only [z1, z2]; omega)) only [z3, z4, z5, z6, z7, z1, z2, *]; exact rfl)) (by exact rfl) (by exact rfl)) ?_
    refine wO_val (a_store (by exact rfl) (by exact rfl) (by (simp (disch := first | omega | (simp only [z1, z2]; omega) | (simp only [z1, z2]; done) | fail) only [z8, z4, z5, z9, z7, z1, z2, *]; exact rfl)) (by exact rfl) (by exact rfl)) ?_
    refine wO_val (a_mov (by exact rfl)) ?_; refine wO_nil ?_; refine kR_k (by simp only [keepE, dstE, geT, paramsE, cond_true, cond_false, Nat.beq]; exact rfl) ?_; refine kS_n ?_; refine wE_ret ?_
    refine endA_ret (vs := [.agg (List.toArray [.slice a n c, .int .i64 kerf]), .int .i64 0]) ((Heap.log_wr_new (Nat.le_succ _)).trans hr.log) ?_ ?_
    · exact res_cells (b := h.next + 1) rfl (by (simp (disch := first | omega | (simp only [z1, z2]; omega) | (simp only [z1, z2]; done) | fail) only [z8, z4, z5, z9, z7, z1, z2, *]; exact rfl)) rfl rfl (res_slot rfl res_nil)
    · rfl
  · unfold changedV; rw [if_neg hc]
    refine wO_val (a_mov (by exact rfl)) ?_; refine wO_nil ?_; refine kR_k (by simp only [keepE, dstE, geT, paramsE, cond_true, cond_false, Nat.beq]; exact rfl) ?_; refine kS_n ?_; refine wE_seq ?_; refine wE_region ?_; refine wO_val (a_mov (by exact rfl)) ?_; refine wO_val (a_num (by exact rfl) (by exact rfl) (by exact m_neqT (by omega))) ?_; refine wO_nil ?_
    refine kR_k (by simp only [keepE, dstE, geT, paramsE, cond_true, cond_false, Nat.beq]; exact rfl) ?_; refine kS_n ?_; refine wE_true (by exact rfl) ?_; refine wE_seq ?_; refine wE_region ?_; refine wO_val (a_build (by exact rfl)) ?_; refine wO_val (a_mov (by exact rfl)) ?_
    refine wO_val (a_store (by exact rfl) (by exact rfl) (by (simp (disch := first | omega | (simp only [z1, z2]; omega) | (simp only [z1, z2]; done) | fail) only [z8, z4, z5, z9, z7, z1, z2, *]; exact rfl)) (by exact rfl) (by exact rfl)) ?_
    refine wO_val (a_mov (by exact rfl)) ?_; refine wO_nil ?_; refine kR_k (by simp only [keepE, dstE, geT, paramsE, cond_true, cond_false, Nat.beq]; exact rfl) ?_; refine kS_n ?_; refine wE_ret ?_; refine kS_r ?_
    refine endA_ret (vs := [.agg (List.toArray [.slice none 0 0, .int .i64 0]), .int .i64 (chk kerf l)]) ((Heap.log_wr_new (Nat.le_succ _)).trans hr.log) ?_ ?_
    · exact res_cells (b := h.next + 1) rfl (by (simp (disch := first | omega | (simp only [z1, z2]; omega) | (simp only [z1, z2]; done) | fail) only [z8, z4, z5, z9, z7, z1, z2, *]; exact rfl)) rfl rfl (res_slot rfl res_nil)
    · rfl
theorem copied115 (G : FnsG T) {h : Heap} (hr : Rdy h) {a : Option Addr} {n c : Nat} {l : List Kd} (hs : SliceOf h 5 (.slice a n c) n (kcs l)) (kerf : Int) (hn : n < 1000000) :
    Al T 115 [.agg #[.slice a n c, .int .i64 kerf]] h fun v h' => ∃ s, v = .agg #[s, .int .i64 kerf] ∧ OwnK h.next h' s l := by
  refine .of G.p G.f115 hr ?_ ?_
  · rintro v h1 hv ⟨s, rfl, h2⟩
    refine ⟨s, rfl, ?_⟩
    cases h2 with
    | nil => exact .nil
    | empty => simp [noRef, flatL, flat, scalL, scal, scal1] at hv
    | full => simp [noRef, flatL, flat, scalL, scal, scal1] at hv
  have hx : Ext h ((h.push (.cells [.slice a n c, .int .i64 kerf] true 1)).push (.cells [.slice none 0 0, .int .i64 0] true 1)) := ((Ext.refl h).push _).push _
  have hx2 := hx.push (.cells [] true 5)
  have hlen : l.length = n := by have := hs.len; rw [kcs_length] at this; omega
  refine wE_seq ?_; refine wE_region ?_; refine wO_val (a_box (by exact rfl) (by exact rfl)) ?_; refine wO_val a_new ?_; refine wO_nil ?_; refine kR_k (by simp only [keepE, dstE, geT, paramsE, cond_true, cond_false, Nat.beq]; exact rfl) ?_; refine kS_n ?_; refine wE_seq ?_; refine wE_draw ?_; refine wD_quiet rfl rfl rfl (by exact rfl) (by exact rfl) (by exact rfl) (a_faddr (by exact rfl)) ?_
  refine wD_quiet rfl rfl rfl (by exact rfl) (by exact rfl) (by exact rfl) (a_load (by exact rfl) (by (simp (disch := first | omega | (simp only [z1, z2]; omega)) only [z3, z4, z5, z6, z7, z1, z2, *]; exact rfl)) (by exact rfl)) ?_
  refine wD_new rfl rfl rfl (by exact rfl) (by exact rfl) (by exact rfl) (a_bslice (by exact rfl) (by exact rfl)) (by refine rs_cons (rq_quiet rfl (a_load (by exact rfl) (by (simp (disch := first | omega | (simp only [z1, z2]; omega)) only [z3, z4, z5, z6, z7, z1, z2, *]; exact rfl)) (by exact rfl)) (by exact sv_int _ _)) ?_; refine rs_cons (rq_quiet rfl (a_faddr (by exact rfl)) (by exact sv_ptr _)) ?_; exact rs_nil) ?_
  refine wD_quiet rfl rfl rfl (by exact rfl) (by exact rfl) (by exact rfl) (a_faddr (by exact rfl)) ?_
  refine wD_quiet rfl rfl rfl (by exact rfl) (by exact rfl) (by exact rfl) (a_load (by exact rfl) (by (simp (disch := first | omega | (simp only [z1, z2]; omega)) only [z3, z4, z5, z6, z7, z1, z2, *]; exact rfl)) (by exact rfl)) ?_
  by_cases h0 : n = 0
  · subst h0
    obtain rfl : l = [] := List.length_eq_zero_iff.1 hlen
    refine wD_app_zero rfl rfl rfl (by exact rfl) (by exact rfl) (by exact rfl) (src_of ((hs.ext hx2).log [])) (Nat.le_refl _) (by apply ra_dropC rfl; apply ra_dropC rfl; apply ra_dropC rfl; apply ra_keepC rfl (rq_quiet rfl (a_load (by exact rfl) (by (simp (disch := first | omega | (simp only [z1, z2]; omega)) only [z3, z4, z5, z6, z7, z1, z2, *]; exact rfl)) (by exact rfl)) (by exact sv_int _ _)) rfl; apply ra_keepC rfl (rq_quiet rfl (a_faddr (by exact rfl)) (by exact sv_ptr _)) rfl; exact ra_nil) ?_
    refine wD_quiet rfl rfl rfl (by exact rfl) (by exact rfl) (by exact rfl) (a_build (by exact rfl)) ?_
    refine wD_store rfl rfl rfl (by exact rfl) (by exact rfl) (by exact rfl) (by (simp (disch := first | omega | (simp only [z1, z2]; omega) | (simp only [z1, z2]; done) | fail) only [z8, z4, z5, z9, z7, z1, z2, *]; exact rfl)) (by exact rfl) (by exact rfl) (by (simp only [z1, z2]; omega)) (by (simp only [z1, z2]; omega)) (by apply ra_dropC rfl; apply ra_dropC rfl; apply ra_dropC rfl; exact ra_nil) ?_
    refine wD_nil ?_; refine kR_k (by simp only [keepE, dstE, geT, paramsE, cond_true, cond_false, Nat.beq]; exact rfl) ?_; refine kS_n ?_; refine wE_ret ?_
    refine endA_ret (vs := [.agg (List.toArray [.slice (some ⟨h.next + 2, 0, none⟩) 0 0, .int .i64 kerf])]) ((Heap.log_wr_new (Nat.le_succ _)).trans hr.log) ?_ ?_
    · exact res_cells (b := h.next + 1) rfl (by (simp (disch := first | omega | (simp only [z1, z2]; omega) | (simp only [z1, z2]; done) | fail) only [z8, z4, z5, z9, z7, z1, z2, *]; exact rfl)) rfl rfl res_nil
    · exact ⟨_, rfl, .empty (by omega) (Nat.lt_succ_self _) (by (simp (disch := first | omega | (simp only [z1, z2]; omega) | (simp only [z1, z2]; done) | fail) only [z8, z4, z5, z9, z7, z1, z2, *]; exact rfl))⟩
  · refine wD_app_full (ws := kcs l) rfl rfl rfl (by exact rfl) (by exact rfl) (by exact rfl) (src_of ((hs.ext hx2).log [])) h0 (by omega) (by unfold UNK; omega) (by (simp (disch := first | omega | (simp only [z1, z2]; omega) | (simp only [z1, z2]; done) | fail) only [z8, z4, z5, z9, z7, z1, z2, *]; exact rfl)) (Nat.le_refl _) (by omega) rfl (by apply ra_dropC rfl; apply ra_dropC rfl; apply ra_dropC rfl; apply ra_keepC rfl (rq_quiet rfl (a_load (by exact rfl) (by (simp (disch := first | omega | (simp only [z1, z2]; omega)) only [z3, z4, z5, z6, z7, z1, z2, *]; exact rfl)) (by exact rfl)) (by exact sv_int _ _)) rfl; apply ra_keepC rfl (rq_quiet rfl (a_faddr (by exact rfl)) (by exact sv_ptr _)) rfl; exact ra_nil) ?_
    refine wD_quiet rfl rfl rfl (by exact rfl) (by exact rfl) (by exact rfl) (a_build (by exact rfl)) ?_
    refine wD_store rfl rfl rfl (by exact rfl) (by exact rfl) (by exact rfl) (by (simp (disch := first | omega | (simp only [z1, z2]; omega) | (simp only [z1, z2]; done) | fail) only [z8, z4, z5, z9, z7, z1, z2, *]; exact rfl)) (by exact rfl) (by exact rfl) (by (simp only [z1, z2]; omega)) (by (simp only [z1, z2]; omega)) (by apply ra_dropC rfl; apply ra_dropC rfl; apply ra_dropC rfl; exact ra_nil) ?_
    refine wD_nil ?_; refine kR_k (by simp only [keepE, dstE, geT, paramsE, cond_true, cond_false, Nat.beq]; exact rfl) ?_; refine kS_n ?_; refine wE_ret ?_
    refine endA_ret (vs := [.agg (List.toArray [.slice (some ⟨h.next + 3, 0, none⟩) (0 + n) UNK, .int .i64 kerf])]) ((Heap.log_wr_new (Nat.le_succ _)).trans hr.log) ?_ ?_
    · exact res_cells (b := h.next + 1) rfl (by (simp (disch := first | omega | (simp only [z1, z2]; omega) | (simp only [z1, z2]; done) | fail) only [z8, z4, z5, z9, z7, z1, z2, *]; exact rfl)) rfl rfl res_nil
    · have e0 : 0 + n = n := Nat.zero_add n
      rw [e0]; exact ⟨_, rfl, .full (by omega) (Nat.lt_succ_self _) (by (simp (disch := first | omega | (simp only [z1, z2]; omega) | (simp only [z1, z2]; done) | fail) only [z8, z4, z5, z9, z7, z1, z2, *]; done)) hlen.symm h0⟩
end Go.A.Pk
end
section
set_option maxRecDepth 100000
namespace Go.A.Pk
variable {T : Nat → Option AFunc}
inductive Wsl (lo : Nat) (h : Heap) : Value → Nat → Prop
  | nil : Wsl lo h (.slice none 0 0) 0
  | full {q i vs} : lo ≤ q → q < h.next → h.get q = some (.cells vs true 1) → vs.length = i → i ≠ 0 → Wsl lo h (.slice (some ⟨q, 0, none⟩) i UNK) i
def startE (kerf : Int) (l : List Kd) (bl : List Bool) : Int := if chk kerf l = 0 then (if bl.all id then 0 else 1) else chk kerf l
set_option maxHeartbeats 4000000 in
theorem started75 (G : FnsE T) {h : Heap} (hr : Rdy h) {a : Option Addr} {n c : Nat} {l : List Kd} (hs : SliceOf h 5 (.slice a n c) n (kcs l)) (kerf : Int) (hn : n < 1000000) {v : Value} {m : Nat} {bl : List Bool} (hb : SliceOf h 1 v m (bcs bl)) (hm : m < 1000000) :
    Al T 75 [.agg #[.slice a n c, .int .i64 kerf], v] h fun v _ => ∃ p, v = .tuple #[.pointer p, .int .i64 (startE kerf l bl)] := by
  refine .of G.toFnsA.p G.f75 hr (fun _ _ _ q => q) ?_
  have hx : Ext h (h.push (.cells [.slice a n c, .int .i64 kerf] true 1)) := (Ext.refl h).push _
  have hlen : l.length = n := by have := hs.len; rw [kcs_length] at this; omega
  refine wE_seq ?_; refine wE_region ?_; refine wO_val (a_box (by exact rfl) (by exact rfl)) ?_; refine wO_val (a_mov (by exact rfl)) ?_; refine wO_val (a_mov (by exact rfl)) ?_; refine wO_nil ?_; refine kR_k (by simp only [keepE, dstE, geT, paramsE, cond_true, cond_false, Nat.beq]; exact rfl) ?_; refine kS_n ?_; refine wE_seq ?_; refine wE_seq ?_; refine wE_region ?_
  refine wO_val (a_loadN (by exact rfl) (by (simp (disch := first | omega | (simp only [z1, z2]; omega)) only [z3, z4, z5, z6, z7, z1, z2, *]; exact rfl)) (by exact rfl) (by exact rfl)) ?_
  refine wO_call (a_call (by exact rfl) (by exact rfl) (by exact rfl) (by exact rfl)) ?_
  refine FW.pu (check66 G.toFnsA (.of (hx.wf hr.wf)) ((hs.ext hx).log []) kerf hn) ?_
  unfold startE
  by_cases hc : chk kerf l = 0
  · rw [if_pos hc, hc]
    refine wO_val (a_mov (by exact rfl)) ?_; refine wO_nil ?_; refine kR_k (by simp only [keepE, dstE, geT, paramsE, cond_true, cond_false, Nat.beq]; exact rfl) ?_; refine kS_n ?_; refine wE_seq ?_; refine wE_region ?_; refine wO_val (a_mov (by exact rfl)) ?_; refine wO_val (a_num (by exact rfl) (by exact rfl) (by exact m_neqF (by omega))) ?_; refine wO_nil ?_
    refine kR_k (by simp only [keepE, dstE, geT, paramsE, cond_true, cond_false, Nat.beq]; exact rfl) ?_; refine kS_n ?_; refine wE_false (by exact rfl) ?_; refine wE_skip ?_; refine kS_n ?_; refine wE_seq ?_; refine wE_seq ?_; refine wE_region ?_; refine wO_val (a_mov (by exact rfl)) ?_
    refine wO_call (a_call (by exact rfl) (by exact rfl) (by exact rfl) (by exact rfl)) ?_
    refine FW.pu (contains122 G.toFnsC (.of (hx.wf hr.wf)) ((hb.ext hx).log []) hm) ?_
    cases hbl : bl.all id with
    | false =>
      refine wO_nil ?_; refine kR_k (by simp only [keepE, dstE, geT, paramsE, cond_true, cond_false, Nat.beq]; exact rfl) ?_; refine kS_n ?_; refine wE_true (by exact rfl) ?_; refine wE_seq ?_; refine wE_region ?_; refine wO_val (a_mov (by exact rfl)) ?_; refine wO_val (a_mov (by exact rfl)) ?_; refine wO_nil ?_
      refine kR_k (by simp only [keepE, dstE, geT, paramsE, cond_true, cond_false, Nat.beq]; exact rfl) ?_; refine kS_n ?_; refine wE_ret ?_; refine kS_r ?_
      exact endA_ret (vs := [.pointer none, .int .i64 1]) hr.log rfl ⟨_, rfl⟩
    | true =>
      refine wO_nil ?_; refine kR_k (by simp only [keepE, dstE, geT, paramsE, cond_true, cond_false, Nat.beq]; exact rfl) ?_; refine kS_n ?_; refine wE_false (by exact rfl) ?_; refine wE_skip ?_; refine kS_n ?_; refine wE_seq ?_; refine wE_region ?_
      refine wO_val (a_loadN (by exact rfl) (by (simp (disch := first | omega | (simp only [z1, z2]; omega)) only [z3, z4, z5, z6, z7, z1, z2, *]; exact rfl)) (by exact rfl) (by exact rfl)) ?_; refine wO_val (a_build (by exact rfl)) ?_; refine wO_val (a_box (by exact rfl) (by exact rfl)) ?_
      refine wO_val (a_mov (by exact rfl)) ?_; refine wO_nil ?_; refine kR_k (by simp only [keepE, dstE, geT, paramsE, cond_true, cond_false, Nat.beq]; exact rfl) ?_; refine kS_n ?_; refine wE_seq ?_; refine wE_seq ?_; refine wE_region ?_; refine wO_val (a_faddr (by exact rfl)) ?_
      refine wO_val (a_load (by exact rfl) (by (simp (disch := first | omega | (simp only [z1, z2]; omega)) only [z3, z4, z5, z6, z7, z1, z2, *]; exact rfl)) (by exact rfl)) ?_; refine wO_val (a_len1 (by exact rfl)) ?_; refine wO_val (a_mov (by exact rfl)) ?_; refine wO_nil ?_
      refine kR_k (by simp only [keepE, dstE, geT, paramsE, cond_true, cond_false, Nat.beq]; exact rfl) ?_; refine kS_n ?_; refine wE_block ?_
      refine wE_loop (fun k e ds h' => ∃ (i : Nat) (w : Value), i ≤ n ∧ k = n - i ∧ e = [(7, .pointer (some ⟨h.next + 1, 0, none⟩)), (21, .slice a n c), (22, .int .i64 n), (23, .int .i64 i)] ∧ ds = [] ∧ Ext (h.push (.cells [.slice a n c, .int .i64 kerf] true 1)) h' ∧
          h.next + 1 < h'.next ∧ h'.get (h.next + 1) = some (.cells [.slice a n c, .int .i64 kerf, w] true 1) ∧ Wsl (h.next + 2) h' w i)
        ⟨0, .slice none 0 0, Nat.zero_le _, rfl, rfl, rfl, (Ext.refl _).push _, Nat.lt_succ_self _, by (simp (disch := first | omega | (simp only [z1, z2]; omega) | (simp only [z1, z2]; done) | fail) only [z8, z4, z5, z9, z7, z1, z2, *]; exact rfl), .nil⟩ ?_
      rintro k e ds hi ⟨i, w, hin, rfl, rfl, rfl, hx1, hnx, hW, hw⟩
      by_cases hlt : i < n
      · obtain ⟨x, hxl⟩ : ∃ x, l[i]? = some x := ⟨l[i], List.getElem?_eq_getElem (by omega)⟩
        have hs' := hs.ext (((Ext.refl h).push _).trans hx1)
        rcases hs'.inv with ⟨_, _, h0, _⟩ | ⟨b, o, cap', hv, s, hcap⟩
        · omega
        · cases hv
          obtain ⟨vs, own, t, g1, g2⟩ := slice_elem s hxl
          have hx3 := (hx1.push (.cells [.int .i64 0, .int .i64 0, .int .i64 0, .int .i64 0, .bool false] true 1)).wr (base := h.next) (x := hi.next) (o := .cells (kc x) true 1) hx1.next (by omega)
          have hx4 := hx3.push (.cells [.int .i64 x.worth] true 1)
          cases hw with
          | nil =>
            refine wE_seq ?_; refine wE_region ?_; refine wO_val (a_num (by exact rfl) (by exact rfl) (by exact m_geqT (by omega))) ?_; refine wO_nil ?_; refine kR_k (by simp only [keepE, dstE, geT, paramsE, cond_true, cond_false, Nat.beq]; exact rfl) ?_; refine kS_n ?_; refine wE_seq ?_; refine wE_true (by exact rfl) ?_; refine wE_skip ?_; refine kS_n ?_; refine wE_seq ?_; refine wE_block ?_; refine wE_seq ?_
            refine wE_region ?_
            refine wO_val (a_iaddrS (by exact rfl) (by exact rfl) hlt) ?_
            refine wO_val (a_loadN (by exact rfl) g1 g2 (by exact rfl)) ?_
            refine wO_val a_new ?_; refine wO_val (a_store (by exact rfl) (by exact rfl) (by (simp (disch := first | omega | (simp only [z1, z2]; omega)) only [z3, z4, z5, z6, z7, z1, z2, *]; exact rfl)) (by exact rfl) (by exact rfl)) ?_; refine wO_nil ?_
            refine kR_k (by simp only [keepE, dstE, geT, paramsE, cond_true, cond_false, Nat.beq]; exact rfl) ?_; refine kS_n ?_; refine wE_draw ?_; refine wD_quiet rfl rfl rfl (by exact rfl) (by exact rfl) (by exact rfl) (a_mov (by exact rfl)) ?_; refine wD_quiet rfl rfl rfl (by exact rfl) (by exact rfl) (by exact rfl) (a_mov (by exact rfl)) ?_
            refine wD_quiet rfl rfl rfl (by exact rfl) (by exact rfl) (by exact rfl) (a_nilchk (by exact rfl)) ?_; refine wD_quiet rfl rfl rfl (by exact rfl) (by exact rfl) (by exact rfl) (a_faddr (by exact rfl)) ?_
            refine wD_quiet rfl rfl rfl (by exact rfl) (by exact rfl) (by exact rfl) (a_load (by exact rfl) (by (simp (disch := first | omega | (simp only [z1, z2]; omega)) only [z3, z4, z5, z6, z7, z1, z2, *]; exact rfl)) (by exact rfl)) ?_
            refine wD_quiet rfl rfl rfl (by exact rfl) (by exact rfl) (by exact rfl) (a_faddr (by exact rfl)) ?_
            refine wD_quiet rfl rfl rfl (by exact rfl) (by exact rfl) (by exact rfl) (a_load (by exact rfl) (by (simp (disch := first | omega | (simp only [z1, z2]; omega)) only [z3, z4, z5, z6, z7, z1, z2, *]; exact rfl)) (by exact rfl)) ?_
            refine wD_new rfl rfl rfl (by exact rfl) (by exact rfl) (by exact rfl) (a_bslice (by exact rfl) (by exact rfl)) (by refine rs_cons (rq_quiet rfl (a_load (by exact rfl) (by (simp (disch := first | omega | (simp only [z1, z2]; omega)) only [z3, z4, z5, z6, z7, z1, z2, *]; exact rfl)) (by exact rfl)) (by exact sv_int _ _)) ?_; refine rs_cons (rq_quiet rfl (a_faddr (by exact rfl)) (by exact sv_ptr _)) ?_; refine rs_cons (rq_quiet rfl (a_load (by exact rfl) (by (simp (disch := first | omega | (simp only [z1, z2]; omega)) only [z3, z4, z5, z6, z7, z1, z2, *]; exact rfl)) (by exact rfl)) (by exact sv_slice _ _ _)) ?_; refine rs_cons (rq_quiet rfl (a_faddr (by exact rfl)) (by exact sv_ptr _)) ?_; refine rs_cons (rq_quiet rfl (a_nilchk (by exact rfl)) (by exact sv_ptr _)) ?_; refine rs_cons (rq_quiet rfl (a_mov (by exact rfl)) (by exact sv_ptr _)) ?_; refine rs_cons (rq_quiet rfl (a_mov (by exact rfl)) (by exact sv_ptr _)) ?_; exact rs_nil) ?_
            refine wD_app_nil (n := 1) rfl rfl rfl (by exact rfl) (by exact rfl) (by exact rfl) (src_log (src_slice (cs := [.int .i64 x.worth]) (by (simp (disch := first | omega | (simp only [z1, z2]; omega) | (simp only [z1, z2]; done) | fail) only [z8, z4, z5, z9, z7, z1, z2, *]; exact rfl)) rfl rfl)) (by omega) (by omega) (by apply ra_dropC rfl; apply ra_dropC rfl; apply ra_dropC rfl; apply ra_dropC rfl; apply ra_dropC rfl; apply ra_dropC rfl; apply ra_dropC rfl; apply ra_keepC rfl (rq_quiet rfl (a_mov (by exact rfl)) (by exact sv_ptr _)) rfl; exact ra_nil) ?_
            refine wD_quiet rfl rfl rfl (by exact rfl) (by exact rfl) (by exact rfl) (a_nilchk (by exact rfl)) ?_; refine wD_quiet rfl rfl rfl (by exact rfl) (by exact rfl) (by exact rfl) (a_faddr (by exact rfl)) ?_
            refine wD_store rfl rfl rfl (by exact rfl) (by exact rfl) (by exact rfl) (by (simp (disch := first | omega | (simp only [z1, z2]; omega)) only [z3, z4, z5, z6, z7, z1, z2, *]; exact rfl)) (by exact rfl) (by exact rfl) (by (simp only [z1, z2]; omega)) (by omega) (by apply ra_dropC rfl; apply ra_dropC rfl; apply ra_dropC rfl; exact ra_nil) ?_
            refine wD_nil ?_; refine kR_k (by simp only [keepE, dstE, geT, paramsE, cond_true, cond_false, Nat.beq]; exact rfl) ?_; refine kB_n ?_; refine kS_n ?_; refine wE_region ?_; refine wO_val (a_num (by exact rfl) (by exact rfl) (by exact m_inc (by omega))) ?_; refine wO_val (a_mov (by exact rfl)) ?_; refine wO_nil ?_
            refine kR_k (by simp only [keepE, dstE, geT, paramsE, cond_true, cond_false, Nat.beq]; exact rfl) ?_; refine kS_n ?_
            refine ⟨n - 1, by omega, 1, .slice (some ⟨hi.next + 2, 0, none⟩) 1 UNK, by omega, rfl, rfl, rfl, ?_, ?_, ?_, ?_⟩
            · exact (hx4.push (.cells [.int .i64 x.worth] true 1)).wr (Nat.le_refl _) (Nat.le_succ _)
            · (simp only [z1, z2]; omega)
            · (simp (disch := first | omega | (simp only [z1, z2]; omega)) only [z3, z4, z5, z6, z7, z1, z2, *]; exact rfl)
            · exact .full (vs := [.int .i64 x.worth]) (by omega) (by (simp only [z1, z2]; omega)) (by (simp (disch := first | omega | (simp only [z1, z2]; omega) | (simp only [z1, z2]; done) | fail) only [z8, z4, z5, z9, z7, z1, z2, *]; done)) rfl (by omega)
          | @full q _ ws h1 h2 h3 h4 h5 =>
            refine wE_seq ?_; refine wE_region ?_; refine wO_val (a_num (by exact rfl) (by exact rfl) (by exact m_geqT (by omega))) ?_; refine wO_nil ?_; refine kR_k (by simp only [keepE, dstE, geT, paramsE, cond_true, cond_false, Nat.beq]; exact rfl) ?_; refine kS_n ?_; refine wE_seq ?_; refine wE_true (by exact rfl) ?_; refine wE_skip ?_; refine kS_n ?_; refine wE_seq ?_; refine wE_block ?_; refine wE_seq ?_
            refine wE_region ?_
            refine wO_val (a_iaddrS (by exact rfl) (by exact rfl) hlt) ?_
            refine wO_val (a_loadN (by exact rfl) g1 g2 (by exact rfl)) ?_
            refine wO_val a_new ?_; refine wO_val (a_store (by exact rfl) (by exact rfl) (by (simp (disch := first | omega | (simp only [z1, z2]; omega)) only [z3, z4, z5, z6, z7, z1, z2, *]; exact rfl)) (by exact rfl) (by exact rfl)) ?_; refine wO_nil ?_
            refine kR_k (by simp only [keepE, dstE, geT, paramsE, cond_true, cond_false, Nat.beq]; exact rfl) ?_; refine kS_n ?_; refine wE_draw ?_; refine wD_quiet rfl rfl rfl (by exact rfl) (by exact rfl) (by exact rfl) (a_mov (by exact rfl)) ?_; refine wD_quiet rfl rfl rfl (by exact rfl) (by exact rfl) (by exact rfl) (a_mov (by exact rfl)) ?_
            refine wD_quiet rfl rfl rfl (by exact rfl) (by exact rfl) (by exact rfl) (a_nilchk (by exact rfl)) ?_; refine wD_quiet rfl rfl rfl (by exact rfl) (by exact rfl) (by exact rfl) (a_faddr (by exact rfl)) ?_
            refine wD_quiet rfl rfl rfl (by exact rfl) (by exact rfl) (by exact rfl) (a_load (by exact rfl) (by (simp (disch := first | omega | (simp only [z1, z2]; omega)) only [z3, z4, z5, z6, z7, z1, z2, *]; exact rfl)) (by exact rfl)) ?_
            refine wD_quiet rfl rfl rfl (by exact rfl) (by exact rfl) (by exact rfl) (a_faddr (by exact rfl)) ?_
            refine wD_quiet rfl rfl rfl (by exact rfl) (by exact rfl) (by exact rfl) (a_load (by exact rfl) (by (simp (disch := first | omega | (simp only [z1, z2]; omega)) only [z3, z4, z5, z6, z7, z1, z2, *]; exact rfl)) (by exact rfl)) ?_
            refine wD_new rfl rfl rfl (by exact rfl) (by exact rfl) (by exact rfl) (a_bslice (by exact rfl) (by exact rfl)) (by refine rs_cons (rq_quiet rfl (a_load (by exact rfl) (by (simp (disch := first | omega | (simp only [z1, z2]; omega)) only [z3, z4, z5, z6, z7, z1, z2, *]; exact rfl)) (by exact rfl)) (by exact sv_int _ _)) ?_; refine rs_cons (rq_quiet rfl (a_faddr (by exact rfl)) (by exact sv_ptr _)) ?_; refine rs_cons (rq_quiet rfl (a_load (by exact rfl) (by (simp (disch := first | omega | (simp only [z1, z2]; omega)) only [z3, z4, z5, z6, z7, z1, z2, *]; exact rfl)) (by exact rfl)) (by exact sv_slice _ _ _)) ?_; refine rs_cons (rq_quiet rfl (a_faddr (by exact rfl)) (by exact sv_ptr _)) ?_; refine rs_cons (rq_quiet rfl (a_nilchk (by exact rfl)) (by exact sv_ptr _)) ?_; refine rs_cons (rq_quiet rfl (a_mov (by exact rfl)) (by exact sv_ptr _)) ?_; refine rs_cons (rq_quiet rfl (a_mov (by exact rfl)) (by exact sv_ptr _)) ?_; exact rs_nil) ?_
            refine wD_app_open (n := 1) (vs := ws) rfl rfl rfl (by exact rfl) (by exact rfl) (by exact rfl) (src_log (src_slice (cs := [.int .i64 x.worth]) (by (simp (disch := first | omega | (simp only [z1, z2]; omega) | (simp only [z1, z2]; done) | fail) only [z8, z4, z5, z9, z7, z1, z2, *]; exact rfl)) rfl rfl)) (by omega) (by (simp (disch := first | omega | (simp only [z1, z2]; omega)) only [z3, z4, z5, z6, z7, z1, z2, *]; done)) (by omega) (by omega) rfl (by omega) rfl (by (simp only [z1, z2]; omega)) (by omega) (by apply ra_dropC rfl; apply ra_dropC rfl; apply ra_dropC rfl; apply ra_dropC rfl; apply ra_dropC rfl; apply ra_dropC rfl; apply ra_dropC rfl; apply ra_keepC rfl (rq_quiet rfl (a_mov (by exact rfl)) (by exact sv_ptr _)) rfl; exact ra_nil) ?_
            refine wD_quiet rfl rfl rfl (by exact rfl) (by exact rfl) (by exact rfl) (a_nilchk (by exact rfl)) ?_; refine wD_quiet rfl rfl rfl (by exact rfl) (by exact rfl) (by exact rfl) (a_faddr (by exact rfl)) ?_
            refine wD_store rfl rfl rfl (by exact rfl) (by exact rfl) (by exact rfl) (by (simp (disch := first | omega | (simp only [z1, z2]; omega)) only [z3, z4, z5, z6, z7, z1, z2, *]; exact rfl)) (by exact rfl) (by exact rfl) (by (simp only [z1, z2]; omega)) (by omega) (by apply ra_dropC rfl; apply ra_dropC rfl; apply ra_dropC rfl; exact ra_nil) ?_
            refine wD_nil ?_; refine kR_k (by simp only [keepE, dstE, geT, paramsE, cond_true, cond_false, Nat.beq]; exact rfl) ?_; refine kB_n ?_; refine kS_n ?_; refine wE_region ?_; refine wO_val (a_num (by exact rfl) (by exact rfl) (by exact m_inc (by omega))) ?_; refine wO_val (a_mov (by exact rfl)) ?_; refine wO_nil ?_
            refine kR_k (by simp only [keepE, dstE, geT, paramsE, cond_true, cond_false, Nat.beq]; exact rfl) ?_; refine kS_n ?_
            refine ⟨n - (i + 1), by omega, i + 1, .slice (some ⟨hi.next + 2, 0, none⟩) (i + 1) UNK, by omega, rfl, rfl, rfl, ?_, ?_, ?_, ?_⟩
            · exact ((hx4.wr (x := q) (base := h.next) (o := .dead) (show h.next + 1 ≤ q by omega) (by omega)).push (.cells (lcat ws [.int .i64 x.worth]) true 1)).wr (Nat.le_refl _) (Nat.le_succ _)
            · (simp only [z1, z2]; omega)
            · (simp (disch := first | omega | (simp only [z1, z2]; omega)) only [z3, z4, z5, z6, z7, z1, z2, *]; exact rfl)
            · exact .full (vs := lcat ws [.int .i64 x.worth]) (by omega) (by (simp only [z1, z2]; omega)) (by (simp (disch := first | omega | (simp only [z1, z2]; omega) | (simp only [z1, z2]; done) | fail) only [z8, z4, z5, z9, z7, z1, z2, *]; done)) (by rw [lcat_eq, List.length_append, h4]; rfl) (by omega)
      · obtain rfl : i = n := by omega
        refine wE_seq ?_; refine wE_region ?_; refine wO_val (a_num (by exact rfl) (by exact rfl) (by exact m_geqF (by omega))) ?_; refine wO_nil ?_; refine kR_k (by simp only [keepE, dstE, geT, paramsE, cond_true, cond_false, Nat.beq]; exact rfl) ?_; refine kS_n ?_; refine wE_seq ?_; refine wE_false (by exact rfl) ?_; refine wE_exit ?_; refine kS_e ?_; refine kS_e ?_; refine kB_e ?_; refine kS_n ?_
        refine wE_seq ?_; refine wE_region ?_; refine wO_val (a_mov (by exact rfl)) ?_; refine wO_val (a_mov (by exact rfl)) ?_; refine wO_val (a_mov (by exact rfl)) ?_; refine wO_nil ?_; refine kR_k (by simp only [keepE, dstE, geT, paramsE, cond_true, cond_false, Nat.beq]; exact rfl) ?_; refine kS_n ?_; refine wE_ret ?_
        exact endA_ret (vs := [.pointer _, .int .i64 0]) (hx1.log.trans hr.log) rfl ⟨_, rfl⟩
  · rw [if_neg hc]
    refine wO_val (a_mov (by exact rfl)) ?_; refine wO_nil ?_; refine kR_k (by simp only [keepE, dstE, geT, paramsE, cond_true, cond_false, Nat.beq]; exact rfl) ?_; refine kS_n ?_; refine wE_seq ?_; refine wE_region ?_; refine wO_val (a_mov (by exact rfl)) ?_; refine wO_val (a_num (by exact rfl) (by exact rfl) (by exact m_neqT (by omega))) ?_; refine wO_nil ?_
    refine kR_k (by simp only [keepE, dstE, geT, paramsE, cond_true, cond_false, Nat.beq]; exact rfl) ?_; refine kS_n ?_; refine wE_true (by exact rfl) ?_; refine wE_seq ?_; refine wE_region ?_; refine wO_val (a_mov (by exact rfl)) ?_; refine wO_val (a_mov (by exact rfl)) ?_; refine wO_val (a_mov (by exact rfl)) ?_; refine wO_nil ?_
    refine kR_k (by simp only [keepE, dstE, geT, paramsE, cond_true, cond_false, Nat.beq]; exact rfl) ?_; refine kS_n ?_; refine wE_ret ?_; refine kS_r ?_
    exact endA_ret (vs := [.pointer none, .int .i64 (chk kerf l)]) hr.log rfl ⟨_, rfl⟩
end Go.A.Pk
end
section
set_option maxRecDepth 100000
namespace Go.A.Pk
variable {T : Nat → Option AFunc}
def changeQ (kerf : Int) (l : List Kd) : Value → Heap → Prop := SawQ (chk kerf l) (if chk kerf l = 0 then kerf else 0) (if chk kerf l = 0 then l else [])
def orErr (er : Int) (Q : Value → Heap → Prop) (v : Value) (h : Heap) : Prop := if er = 0 then Q v h else SawQ er 0 [] v h
theorem orErr.gc {er : Int} {Q : Value → Heap → Prop} {h : Heap} (hQ : ∀ v h1, noRef v = true → Q v h1 → Q v h) (v : Value) (h1 : Heap) (hv : noRef v = true) (q : orErr er Q v h1) : orErr er Q v h := by
  unfold orErr at q ⊢
  split
  · rename_i h0; rw [if_pos h0] at q; exact hQ v h1 hv q
  · rename_i h0; rw [if_neg h0] at q; exact SawQ.gc v h1 hv q
def raise (l : List Kd) (i v : Int) : List Kd := l.modify i.toNat fun x => { x with worth := v }
theorem startE_one (kerf : Int) (l : List Kd) (p : Prop) [Decidable p] : startE kerf l [decide p] = asked kerf l p := by
  unfold startE asked
  by_cases hp : p <;> simp [hp]
theorem kcs_set : ∀ (l : List Kd) (j : Nat) (v : Int), lset (kcs l) (j * 5 + 3) (.int .i64 v) = kcs (l.modify j fun x => { x with worth := v })
  | [], _, _ => by simp [kcs, lset]
  | k :: l, 0, v => by simp [kcs, kc, lset, List.modify_cons]
  | k :: l, j + 1, v => by
    have e : (j + 1) * 5 + 3 = j * 5 + 3 + 5 := by omega
    rw [e, List.modify_succ_cons]
    simp only [kcs, kc, List.cons_append, List.nil_append, lset]
    rw [kcs_set l j v]
theorem raise_len (l : List Kd) (i v : Int) : (raise l i v).length = l.length := by simp [raise]
structure FnsH (T : Nat → Option AFunc) : Prop extends FnsE T where
  f59 : T 59 = some f59
  f60 : T 60 = some f60
  f61 : T 61 = some f61
  f114 : T 114 = some f114
  f39 : T 39 = some f39
set_option maxHeartbeats 4000000 in
theorem raised59 (G : FnsH T) {h : Heap} (hr : Rdy h) {a : Option Addr} {n c : Nat} {l : List Kd} (hs : SliceOf h 5 (.slice a n c) n (kcs l)) (kerf : Int) (hn : n < 1000000) (i v : Int) :
    Al T 59 [.agg #[.slice a n c, .int .i64 kerf], .int .i64 i, .int .i64 v] h (orErr (asked kerf l (0 ≤ i ∧ i < n)) (changeQ kerf (raise l i v))) := by
  refine .of G.toFnsA.p G.f59 hr (orErr.gc SawQ.gc) ?_
  have hx : Ext h ((h.push (.cells [.slice a n c, .int .i64 kerf] true 1)).push (.cells [.slice none 0 0, .int .i64 0] true 1)) := ((Ext.refl h).push _).push _
  have hlen : l.length = n := by have := hs.len; rw [kcs_length] at this; omega
  refine wE_seq ?_; refine wE_region ?_; refine wO_val (a_box (by exact rfl) (by exact rfl)) ?_; refine wO_val a_new ?_; refine wO_val (a_mov (by exact rfl)) ?_; refine wO_nil ?_; refine kR_k (by simp only [keepE, dstE, geT, paramsE, cond_true, cond_false, Nat.beq]; exact rfl) ?_; refine kS_n ?_; refine wE_seq ?_; refine wE_seq ?_; refine wE_draw ?_
  refine wD_quiet rfl rfl rfl (by exact rfl) (by exact rfl) (by exact rfl) (a_loadN (by exact rfl) (by (simp (disch := first | omega | (simp only [z1, z2]; omega)) only [z3, z4, z5, z6, z7, z1, z2, *]; exact rfl)) (by exact rfl) (by exact rfl)) ?_
  refine wD_quiet rfl rfl rfl (by exact rfl) (by exact rfl) (by exact rfl) (a_loadN (by exact rfl) (by (simp (disch := first | omega | (simp only [z1, z2]; omega)) only [z3, z4, z5, z6, z7, z1, z2, *]; exact rfl)) (by exact rfl) (by exact rfl)) ?_
  refine wD_quiet rfl rfl rfl (by exact rfl) (by exact rfl) (by exact rfl) (a_mov (by exact rfl)) ?_
  refine wD_call rfl rfl rfl (by exact rfl) (by exact rfl) (a_call (by exact rfl) (by exact rfl) (by exact rfl) (by exact rfl)) ?_
  refine FW.puD (isKind97 G.toFnsC (.of (hx.wf hr.wf)) kerf i hn) (by apply ra_dropC rfl; apply ra_dropC rfl; apply ra_keepC rfl (rq_quiet rfl (a_loadN (by exact rfl) (by (simp (disch := first | omega | (simp only [z1, z2]; omega)) only [z3, z4, z5, z6, z7, z1, z2, *]; exact rfl)) (by exact rfl) (by exact rfl)) (by exact sv_agg (by refine sl_cons (s1_slice _ _ _) ?_; refine sl_cons (s1_int _ _) ?_; exact sl_nil))) rfl; exact ra_nil) ?_
  refine wD_new rfl rfl rfl (by exact rfl) (by exact rfl) (by exact rfl) (a_bslice (by exact rfl) (by exact rfl)) (by refine rs_cons (rq_quiet rfl (a_loadN (by exact rfl) (by (simp (disch := first | omega | (simp only [z1, z2]; omega)) only [z3, z4, z5, z6, z7, z1, z2, *]; exact rfl)) (by exact rfl) (by exact rfl)) (by exact sv_agg (by refine sl_cons (s1_slice _ _ _) ?_; refine sl_cons (s1_int _ _) ?_; exact sl_nil))) ?_; exact rs_nil) ?_
  refine wD_call rfl rfl rfl (by exact rfl) (by exact rfl) (a_call (by exact rfl) (by exact rfl) (by exact rfl) (by exact rfl)) ?_
  have hx2 := hx.push (.cells [.bool (decide (0 ≤ i ∧ i < n))] true 1)
  refine FW.alD (started75 G.toFnsE (.of (hx2.wf hr.wf)) ((hs.ext hx2).log []) kerf hn (bl := [decide (0 ≤ i ∧ i < n)]) (m := 1) (.mem ⟨Nat.lt_succ_self _, ⟨_, _, _, z3 _ _, rfl⟩, rfl⟩ (Nat.le_refl _)) (by omega)) (fun _ _ _ q => q) ?_
  rintro _ h1 hx3 ⟨p, rfl⟩
  rw [startE_one]
  have hN : h.next + 3 ≤ h1.next := hx3.next
  have g1 : h1.get h.next = some (.cells [.slice a n c, .int .i64 kerf] true 1) := by rw [hx3.old _ (by (simp only [z1, z2]; omega))]; (simp (disch := first | omega | (simp only [z1, z2]; omega)) only [z3, z4, z5, z6, z7, z1, z2, *]; exact rfl)
  have g2 : h1.get (h.next + 1) = some (.cells [.slice none 0 0, .int .i64 0] true 1) := by rw [hx3.old _ (by (simp only [z1, z2]; omega))]; (simp (disch := first | omega | (simp only [z1, z2]; omega) | (simp only [z1, z2]; done) | fail) only [z8, z4, z5, z9, z7, z1, z2, *]; done)
  refine ⟨_, by apply ra_dropC rfl; apply ra_dropC rfl; exact ra_nil, ?_⟩
  have w1 : WF h1 := hx3.wf (hx2.wf hr.wf)
  have hx13 : Ext h h1 := hx2.trans hx3
  unfold orErr
  by_cases ha : asked kerf l (0 ≤ i ∧ i < n) = 0
  · simp only [if_pos ha]
    have hP : chk kerf l = 0 ∧ 0 ≤ i ∧ i < n := by
      unfold asked at ha
      by_cases h0 : chk kerf l = 0
      · rw [if_pos h0] at ha
        by_cases hp : 0 ≤ i ∧ i < n
        · exact ⟨h0, hp⟩
        · rw [if_neg hp] at ha; omega
      · rw [if_neg h0] at ha; exact absurd ha h0
    obtain ⟨j, rfl⟩ := Int.eq_ofNat_of_zero_le hP.2.1
    have hj : j < n := by omega
    refine wD_quiet rfl rfl rfl (by exact rfl) (by exact rfl) (by exact rfl) (a_mov (by exact rfl)) ?_; refine wD_quiet rfl rfl rfl (by exact rfl) (by exact rfl) (by exact rfl) (a_extract (by exact rfl) (by exact rfl)) ?_; refine wD_quiet rfl rfl rfl (by exact rfl) (by exact rfl) (by exact rfl) (a_extract (by exact rfl) (by exact rfl)) ?_
    refine wD_quiet rfl rfl rfl (by exact rfl) (by exact rfl) (by exact rfl) (a_mov (by exact rfl)) ?_; refine wD_quiet rfl rfl rfl (by exact rfl) (by exact rfl) (by exact rfl) (a_mov (by exact rfl)) ?_; refine wD_nil ?_; refine kR_k (by simp only [keepE, dstE, geT, paramsE, cond_true, cond_false, Nat.beq]; exact rfl) ?_; refine kS_n ?_; refine wE_seq ?_; refine wE_region ?_
    refine wO_val (a_mov (by exact rfl)) ?_; refine wO_val (a_num (by exact rfl) (by exact rfl) (by exact m_neqF (by omega))) ?_; refine wO_nil ?_; refine kR_k (by simp only [keepE, dstE, geT, paramsE, cond_true, cond_false, Nat.beq]; exact rfl) ?_; refine kS_n ?_; refine wE_false (by exact rfl) ?_; refine wE_skip ?_; refine kS_n ?_; refine wE_seq ?_; refine wE_region ?_
    refine wO_val (a_faddr (by exact rfl)) ?_; refine wO_val (a_load (by exact rfl) (by assumption) (by exact rfl)) ?_
    refine wO_call (a_call (by exact rfl) (by exact rfl) (by exact rfl) (by exact rfl)) ?_
    refine FW.al (clone96 G.toFnsE (.of w1) ((hs.ext hx13).log []) hn) (fun _ _ _ q => q.log _) ?_
    rintro v2 h2 hx4 hq
    cases hq with
    | nil => exact absurd hlen (by simp; omega)
    | empty => exact absurd hlen (by simp; omega)
    | @full b2 n2 _ q1 q2 q3 q4 q5 =>
      obtain rfl : n2 = n := by omega
      clear q4
      have q1' : h1.next ≤ b2 := q1
      have hN4 : h1.next ≤ h2.next := hx4.next
      have g3 : h2.get h.next = some (.cells [.slice a n2 c, .int .i64 kerf] true 1) := (hx4.old _ (by omega)).trans g1
      have g4 : h2.get (h.next + 1) = some (.cells [.slice none 0 0, .int .i64 0] true 1) := (hx4.old _ (by omega)).trans g2
      refine wO_val (a_faddr (by exact rfl)) ?_; refine wO_val (a_store (by exact rfl) (by exact rfl) (by assumption) (by exact rfl) (by exact rfl)) ?_; refine wO_nil ?_; refine kR_k (by simp only [keepE, dstE, geT, paramsE, cond_true, cond_false, Nat.beq]; exact rfl) ?_; refine kS_n ?_; refine wE_seq ?_; refine wE_region ?_; refine wO_val (a_faddr (by exact rfl)) ?_
      refine wO_val (a_load (by exact rfl) (by (simp (disch := first | omega | (simp only [z1, z2]; omega)) only [z3, z4, z5, z6, z7, z1, z2, *]; exact rfl)) (by exact rfl)) ?_; refine wO_val (a_mov (by exact rfl)) ?_; refine wO_val (a_mov (by exact rfl)) ?_
      refine wO_val (a_iaddrS (by exact rfl) (by exact rfl) hj) ?_
      refine wO_val (a_faddr (by exact rfl)) ?_
      have s1 : (Nat.beq (llen (cellsOf (.int .i64 v))) 1 && Nat.ble (0 + j * 5 + 3 + 1) (llen (kcs l)) && ones (cellsOf (.int .i64 v))) = true := by
        have : Nat.ble (0 + j * 5 + 3 + 1) (llen (kcs l)) = true := by rw [ble_eq, llen_eq, kcs_length]; simp; omega
        rw [this]; rfl
      have s2 : lputs (kcs l) (0 + j * 5 + 3) (cellsOf (.int .i64 v)) = kcs (raise l j v) := by
        show lset (kcs l) (0 + j * 5 + 3) (.int .i64 v) = _
        rw [Nat.zero_add]; exact kcs_set l j v
      refine wO_val (a_store (vs := kcs l) (by exact rfl) (by exact rfl) (by (simp (disch := first | omega | (simp only [z1, z2]; omega)) only [z3, z4, z5, z6, z7, z1, z2, *]; exact rfl)) s1 s2) ?_
      refine wO_nil ?_; refine kR_k (by simp only [keepE, dstE, geT, paramsE, cond_true, cond_false, Nat.beq]; exact rfl) ?_; refine kS_n ?_; refine wE_seq ?_; refine wE_region ?_
      refine wO_val (a_loadN (by exact rfl) (by (simp (disch := first | omega | (simp only [z1, z2]; omega)) only [z3, z4, z5, z6, z7, z1, z2, *]; exact rfl)) (by exact rfl) (by exact rfl)) ?_
      refine wO_call (a_call (by exact rfl) (by exact rfl) (by exact rfl) (by exact rfl)) ?_
      have hx5 : Ext h ((h2.wr h.next h.next (.cells [.slice (some ⟨b2, 0, none⟩) n2 UNK, .int .i64 kerf] true 1)).wr h.next b2 (.cells (kcs (raise l j v)) true 5)) := ((hx13.trans hx4).wr (Nat.le_refl _) (Nat.le_refl _)).wr (by omega) (by omega)
      have g5 : ((h2.wr h.next h.next (.cells [.slice (some ⟨b2, 0, none⟩) n2 UNK, .int .i64 kerf] true 1)).wr h.next b2 (.cells (kcs (raise l j v)) true 5)).get b2 = some (.cells (kcs (raise l j v)) true 5) := by (simp (disch := first | omega | (simp only [z1, z2]; omega)) only [z3, z4, z5, z6, z7, z1, z2, *]; done)
      have g6 : ((h2.wr h.next h.next (.cells [.slice (some ⟨b2, 0, none⟩) n2 UNK, .int .i64 kerf] true 1)).wr h.next b2 (.cells (kcs (raise l j v)) true 5)).get (h.next + 1) = some (.cells [.slice none 0 0, .int .i64 0] true 1) := by (simp (disch := first | omega | (simp only [z1, z2]; omega)) only [z3, z4, z5, z6, z7, z1, z2, *]; done)
      have hlr := raise_len l j v
      have sl : ∀ {H : Heap}, b2 < H.next → H.get b2 = some (.cells (kcs (raise l j v)) true 5) → SliceOf H 5 (.slice (some ⟨b2, 0, none⟩) n2 UNK) n2 (kcs (raise l j v)) := fun hH gH =>
        .mem ⟨hH, ⟨_, _, _, gH, by rw [ltake_eq, ldrop_eq, List.drop_zero, List.take_of_length_le (by rw [kcs_length]; omega)]⟩, by rw [kcs_length]; omega⟩ (by unfold UNK; omega)
      refine FW.al (changed113 G.toFnsE (.of (hx5.wf hr.wf)) ((sl (by exact q2) g5).log []) kerf hn) (fun _ _ _ q => q) ?_
      rintro _ h5 hx6 rfl
      have hN6 : h2.next ≤ h5.next := hx6.next
      have g7 := (hx6.old _ (show h.next + 1 < h2.next by omega)).trans g6
      have g8 := (hx6.old _ q2).trans g5
      clear sl
      unfold changedV changeQ
      by_cases hk : chk kerf (raise l j v) = 0
      · simp only [hk, ↓reduceIte]
        refine wO_val (a_extract (by exact rfl) (by exact rfl)) ?_; refine wO_val (a_extract (by exact rfl) (by exact rfl)) ?_; refine wO_val (a_store (by exact rfl) (by exact rfl) (by assumption) (by exact rfl) (by exact rfl)) ?_; refine wO_val (a_mov (by exact rfl)) ?_; refine wO_nil ?_; refine kR_k (by simp only [keepE, dstE, geT, paramsE, cond_true, cond_false, Nat.beq]; exact rfl) ?_; refine kS_n ?_
        refine wE_ret ?_
        refine endA_ret (vs := [.agg (List.toArray [.slice (some ⟨b2, 0, none⟩) n2 UNK, .int .i64 kerf]), .int .i64 0]) ((Heap.log_wr_new (Nat.le_succ _)).trans ((hx5.trans hx6).log.trans hr.log)) ?_ ?_
        · exact res_cells (b := h.next + 1) rfl (Heap.get_wr_new g7) rfl rfl (res_slot rfl res_nil)
        · refine SawQ.ret ?_
          rw [hlr, hlen]
          exact .mem ⟨(show b2 < h5.next by omega), ⟨_, _, _, (z5 (show b2 ≠ h.next + 1 by omega)).trans g8, by rw [ltake_eq, ldrop_eq, List.drop_zero, List.take_of_length_le (by rw [kcs_length]; omega)]⟩, by rw [kcs_length]; omega⟩ (by unfold UNK; omega)
      · simp only [if_neg hk]
        refine wO_val (a_extract (by exact rfl) (by exact rfl)) ?_; refine wO_val (a_extract (by exact rfl) (by exact rfl)) ?_; refine wO_val (a_store (by exact rfl) (by exact rfl) (by assumption) (by exact rfl) (by exact rfl)) ?_; refine wO_val (a_mov (by exact rfl)) ?_; refine wO_nil ?_; refine kR_k (by simp only [keepE, dstE, geT, paramsE, cond_true, cond_false, Nat.beq]; exact rfl) ?_; refine kS_n ?_
        refine wE_ret ?_
        refine endA_ret (vs := [.agg (List.toArray [.slice none 0 0, .int .i64 0]), .int .i64 (chk kerf (raise l j v))]) ((Heap.log_wr_new (Nat.le_succ _)).trans ((hx5.trans hx6).log.trans hr.log)) ?_ ?_
        · exact res_cells (b := h.next + 1) rfl (Heap.get_wr_new g7) rfl rfl (res_slot rfl res_nil)
        · exact SawQ.ret .nil
  · simp only [if_neg ha]
    refine wD_quiet rfl rfl rfl (by exact rfl) (by exact rfl) (by exact rfl) (a_mov (by exact rfl)) ?_; refine wD_quiet rfl rfl rfl (by exact rfl) (by exact rfl) (by exact rfl) (a_extract (by exact rfl) (by exact rfl)) ?_; refine wD_quiet rfl rfl rfl (by exact rfl) (by exact rfl) (by exact rfl) (a_extract (by exact rfl) (by exact rfl)) ?_
    refine wD_quiet rfl rfl rfl (by exact rfl) (by exact rfl) (by exact rfl) (a_mov (by exact rfl)) ?_; refine wD_quiet rfl rfl rfl (by exact rfl) (by exact rfl) (by exact rfl) (a_mov (by exact rfl)) ?_; refine wD_nil ?_; refine kR_k (by simp only [keepE, dstE, geT, paramsE, cond_true, cond_false, Nat.beq]; exact rfl) ?_; refine kS_n ?_; refine wE_seq ?_; refine wE_region ?_
    refine wO_val (a_mov (by exact rfl)) ?_; refine wO_val (a_num (by exact rfl) (by exact rfl) (by exact m_neqT (by omega))) ?_; refine wO_nil ?_; refine kR_k (by simp only [keepE, dstE, geT, paramsE, cond_true, cond_false, Nat.beq]; exact rfl) ?_; refine kS_n ?_; refine wE_true (by exact rfl) ?_; refine wE_seq ?_; refine wE_region ?_; refine wO_val (a_build (by exact rfl)) ?_
    refine wO_val (a_mov (by exact rfl)) ?_; refine wO_val (a_store (by exact rfl) (by exact rfl) (by assumption) (by exact rfl) (by exact rfl)) ?_; refine wO_val (a_mov (by exact rfl)) ?_; refine wO_nil ?_; refine kR_k (by simp only [keepE, dstE, geT, paramsE, cond_true, cond_false, Nat.beq]; exact rfl) ?_; refine kS_n ?_; refine wE_ret ?_; refine kS_r ?_
    refine endA_ret (vs := [.agg (List.toArray [.slice none 0 0, .int .i64 0]), .int .i64 (asked kerf l (0 ≤ i ∧ i < n))]) ((Heap.log_wr_new (Nat.le_succ _)).trans (hx13.log.trans hr.log)) ?_ ?_
    · exact res_cells (b := h.next + 1) rfl (Heap.get_wr_new g2) rfl rfl (res_slot rfl res_nil)
    · exact SawQ.ret .nil
end Go.A.Pk
end
section
set_option maxRecDepth 100000
namespace Go.A.Pk
variable {T : Nat → Option AFunc}
def wb : Value → Option Nat
  | .slice (some a) _ _ => some a.block
  | _ => none
theorem OwnK.wb {lo : Nat} {h : Heap} {v : Value} {l : List Kd} (s : OwnK lo h v l) {x : Nat} (hx : h.next ≤ x ∨ x < lo) : wb v ≠ some x := by
  cases s with
  | nil => simp [Pk.wb]
  | empty h1 h2 => simp only [Pk.wb, ne_eq, Option.some.injEq]; omega
  | full h1 h2 => simp only [Pk.wb, ne_eq, Option.some.injEq]; omega
theorem wD_app_own {base : Nat} {e : Env} {h a : Heap} {ops : List AOper} {bf : List Nat} {rs : List Rec} {Q : Env → Heap → Prop} {i mask : Nat} {is : List Nat} {dst : Option Nat} {g : Option (Nat × Bool)} {er : Env} {lo : Nat} {x y : Operand} {w v : Value} {l l2 : List Kd}
    (ho : lget ops i = some ⟨dst, .append 5 40 x y, g⟩) (hm : lget bf i = some mask) (he : keepE e (slotsA ⟨dst, .append 5 40 x y, g⟩) = er) (hwt : wantedA er g = some true)
    (hx : ev { h with log := [] } er x = some w) (hy : ev { h with log := [] } er y = some v) (hw : OwnK lo h w l) (hl : l.length < 1000000) (hs : srcCells { h with log := [] } 5 v = some (kcs l2, l2.length)) (hn : l2.length ≠ 0) (hl2 : l2.length < 1000000)
    (ha : Ext a h) (hlo : a.next ≤ lo) (hb : base ≤ lo)
    (H : ∀ h' log, Ext a h' → h'.next = h.next + 1 → h'.get h.next = some (.cells (kcs (l ++ l2)) true 5) → ∃ rs', recsAfter h' base log mask rs = some rs' ∧ WD T base ops bf Q is rs' (dstE e dst (.slice (some ⟨h.next, 0, none⟩) (l.length + l2.length) UNK)) h') :
    WD T base ops bf Q (i :: is) rs e h := by
  have o2 := ones_kcs l2
  cases hw with
  | nil =>
    obtain ⟨rs', h1, h2⟩ := H (h.push (.cells (kcs l2) true 5)) [] (ha.push _) rfl (z3 _ _)
    rw [List.length_nil, Nat.zero_add] at h2
    exact wD_app_nil ho hm he hwt hx hy hs hn (by omega) h1 h2
  | @empty b q1 q2 q3 =>
    obtain ⟨rs', h1, h2⟩ := H (h.push (.cells (kcs l2) true 5)) [] (ha.push _) rfl (z3 _ _)
    exact wD_app_full (ws := kcs l2) ho hm he hwt hx hy hs hn (by omega) (by unfold UNK; omega) q3 (by simp) (by omega) rfl h1 h2
  | @full b n _ q1 q2 q3 q4 q5 =>
    subst q4
    obtain ⟨rs', h1, h2⟩ := H ((h.wr base b .dead).push (.cells (kcs (l ++ l2)) true 5)) [b] ((ha.wr (by omega) (by omega)).push _) rfl (z8 (Nat.le_refl _) (Nat.le_refl _))
    exact wD_app_open (ws := kcs (l ++ l2)) ho hm he hwt hx hy hs hn q3 (kcs_length l) (by omega) o2 (by omega) (by rw [lcat_eq, kcs_append]) q2 (by omega) h1 h2
theorem wO_app_own {base : Nat} {rnd : Option Nat} {Q : XQ} {e : Env} {ds : Dfs} {h a : Heap} {dst : Option Nat} {os : List AOper} {lo : Nat} {x y : Operand} {w v : Value} {l l2 : List Kd}
    (hx : ev h e x = some w) (hy : ev h e y = some v) (hw : OwnK lo h w l) (hl : l.length < 1000000) (hs : srcCells h 5 v = some (kcs l2, l2.length)) (hn : l2.length ≠ 0) (hl2 : l2.length < 1000000)
    (ha : Ext a h) (hlo : a.next ≤ lo) (hb : base ≤ lo)
    (H : ∀ h', Ext a h' → h'.next = h.next + 1 → (∀ x, x < h.next → wb w ≠ some x → h'.get x = h.get x) → h'.get h.next = some (.cells (kcs (l ++ l2)) true 5) → WO T base rnd Q os (dstE e dst (.slice (some ⟨h.next, 0, none⟩) (l.length + l2.length) UNK)) ds h') :
    WO T base rnd Q (⟨dst, .append 5 40 x y, none⟩ :: os) e ds h := by
  have o2 := ones_kcs l2
  cases hw with
  | nil =>
    have h2 := H (h.push (.cells (kcs l2) true 5)) (ha.push _) rfl (fun x hx _ => z4 hx) (z3 _ _)
    rw [List.length_nil, Nat.zero_add] at h2
    exact wO_val (a_app_nil hx hy hs hn (by omega) rfl) h2
  | @empty b q1 q2 q3 =>
    have h2 := H (h.push (.cells (kcs l2) true 5)) (ha.push _) rfl (fun x hx _ => z4 hx) (z3 _ _)
    exact wO_val (a_app_full (ws := kcs l2) hx hy hs hn (by omega) (by unfold UNK; omega) q3 (by simp) (by omega) rfl) h2
  | @full b n _ q1 q2 q3 q4 q5 =>
    subst q4
    have h2 := H ((h.wr base b .dead).push (.cells (kcs (l ++ l2)) true 5)) ((ha.wr (by omega) (by omega)).push _) rfl (fun x hx hne => (z4 (show x < (h.wr base b .dead).next from hx)).trans (z5 (fun e => hne (by rw [e]; rfl)))) (z8 (Nat.le_refl _) (Nat.le_refl _))
    exact wO_val (a_app_open (ws := kcs (l ++ l2)) hx hy hs hn q3 (kcs_length l) (by omega) o2 (by omega) (by rw [lcat_eq, kcs_append])) h2
end Go.A.Pk
end
section
set_option maxRecDepth 100000
namespace Go.A.Pk
variable {T : Nat → Option AFunc}
theorem startE_nil (kerf : Int) (l : List Kd) : startE kerf l [] = chk kerf l := by
  unfold startE
  split
  · rename_i h; simp [h]
  · rfl
theorem full_slice {H : Heap} {b n : Nat} {l : List Kd} (hH : b < H.next) (gH : H.get b = some (.cells (kcs l) true 5)) (hn : l.length = n) (hn2 : n < 2000000) : SliceOf H 5 (.slice (some ⟨b, 0, none⟩) n UNK) n (kcs l) :=
  .mem ⟨hH, ⟨_, _, _, gH, by rw [ltake_eq, ldrop_eq, List.drop_zero, List.take_of_length_le (by rw [kcs_length]; omega)]⟩, by rw [kcs_length]; omega⟩ (by unfold UNK; omega)
set_option maxHeartbeats 4000000 in
theorem with60 (G : FnsH T) {h : Heap} (hr : Rdy h) {a : Option Addr} {n c : Nat} {l : List Kd} (hs : SliceOf h 5 (.slice a n c) n (kcs l)) (kerf : Int) (hn : n < 999999) (k : Kd) :
    Al T 60 [.agg #[.slice a n c, .int .i64 kerf], .agg (kc k).toArray] h (orErr (chk kerf l) (changeQ kerf (l ++ [k]))) := by
  refine .of G.toFnsA.p G.f60 hr (orErr.gc SawQ.gc) ?_
  have hx : Ext h (((h.push (.cells [.slice a n c, .int .i64 kerf] true 1)).push (.cells (kc k) true 1)).push (.cells [.slice none 0 0, .int .i64 0] true 1)) := (((Ext.refl h).push _).push _).push _
  obtain rfl : n = l.length := by have := hs.len; rw [kcs_length] at this; omega
  refine wE_seq ?_; refine wE_region ?_; refine wO_val (a_box (by exact rfl) (by exact rfl)) ?_; refine wO_val (a_box (by exact rfl) (by exact rfl)) ?_; refine wO_val a_new ?_; refine wO_val (a_mov (by exact rfl)) ?_; refine wO_nil ?_; refine kR_k (by simp only [keepE, dstE, geT, paramsE, cond_true, cond_false, Nat.beq]; exact rfl) ?_; refine kS_n ?_; refine wE_seq ?_; refine wE_seq ?_
  refine wE_region ?_; refine wO_val (a_loadN (by exact rfl) (by (simp (disch := first | omega | (simp only [z1, z2]; omega)) only [z3, z4, z5, z6, z7, z1, z2, *]; exact rfl)) (by exact rfl) (by exact rfl)) ?_
  refine wO_call (a_call (by exact rfl) (by exact rfl) (by exact rfl) (by exact rfl)) ?_
  refine FW.al (started75 G.toFnsE (.of (hx.wf hr.wf)) ((hs.ext hx).log []) kerf (by omega) (bl := []) (m := 0) .nil (by omega)) (fun _ _ _ q => q) ?_
  rintro _ h1 hx3 ⟨p, rfl⟩
  rw [startE_nil]
  have hN : h.next + 3 ≤ h1.next := hx3.next
  have g1 : h1.get h.next = some (.cells [.slice a l.length c, .int .i64 kerf] true 1) := by rw [hx3.old _ (by (simp only [z1, z2]; omega))]; (simp (disch := first | omega | (simp only [z1, z2]; omega)) only [z3, z4, z5, z6, z7, z1, z2, *]; exact rfl)
  have g2 : h1.get (h.next + 1) = some (.cells (kc k) true 1) := by rw [hx3.old _ (by (simp only [z1, z2]; omega))]; (simp (disch := first | omega | (simp only [z1, z2]; omega) | (simp only [z1, z2]; done) | fail) only [z8, z4, z5, z9, z7, z1, z2, *]; exact rfl)
  have g3 : h1.get (h.next + 2) = some (.cells [.slice none 0 0, .int .i64 0] true 1) := by rw [hx3.old _ (by (simp only [z1, z2]; omega))]; (simp (disch := first | omega | (simp only [z1, z2]; omega) | (simp only [z1, z2]; done) | fail) only [z8, z4, z5, z9, z7, z1, z2, *]; done)
  have w1 : WF h1 := hx3.wf (hx.wf hr.wf)
  have hx13 : Ext h h1 := hx.trans hx3
  unfold orErr
  by_cases ha : chk kerf l = 0
  · simp only [if_pos ha]
    refine wO_val (a_mov (by exact rfl)) ?_; refine wO_val (a_extract (by exact rfl) (by exact rfl)) ?_; refine wO_val (a_extract (by exact rfl) (by exact rfl)) ?_; refine wO_val (a_mov (by exact rfl)) ?_; refine wO_val (a_mov (by exact rfl)) ?_; refine wO_nil ?_; refine kR_k (by simp only [keepE, dstE, geT, paramsE, cond_true, cond_false, Nat.beq]; exact rfl) ?_; refine kS_n ?_; refine wE_seq ?_
    refine wE_region ?_; refine wO_val (a_mov (by exact rfl)) ?_; refine wO_val (a_num (by exact rfl) (by exact rfl) (by exact m_neqF (by omega))) ?_; refine wO_nil ?_; refine kR_k (by simp only [keepE, dstE, geT, paramsE, cond_true, cond_false, Nat.beq]; exact rfl) ?_; refine kS_n ?_; refine wE_false (by exact rfl) ?_; refine wE_skip ?_; refine kS_n ?_; refine wE_seq ?_; refine wE_draw ?_
    refine wD_quiet rfl rfl rfl (by exact rfl) (by exact rfl) (by exact rfl) (a_faddr (by exact rfl)) ?_; refine wD_quiet rfl rfl rfl (by exact rfl) (by exact rfl) (by exact rfl) (a_load (by exact rfl) (by assumption) (by exact rfl)) ?_; refine wD_quiet rfl rfl rfl (by exact rfl) (by exact rfl) (by exact rfl) (a_loadN (by exact rfl) (by assumption) (by exact rfl) (by exact rfl)) ?_
    refine wD_new rfl rfl rfl (by exact rfl) (by exact rfl) (by exact rfl) (a_bslice (by exact rfl) (by exact rfl)) (by refine rs_cons (rq_quiet rfl (a_loadN (by exact rfl) (by (simp (disch := first | omega | (simp only [z1, z2]; omega)) only [z3, z4, z5, z6, z7, z1, z2, *]; exact rfl)) (by exact rfl) (by exact rfl)) (by exact sv_agg (by refine sl_cons (s1_int _ _) ?_; refine sl_cons (s1_int _ _) ?_; refine sl_cons (s1_int _ _) ?_; refine sl_cons (s1_int _ _) ?_; refine sl_cons (s1_bool _) ?_; exact sl_nil))) ?_; refine rs_cons (rq_quiet rfl (a_load (by exact rfl) (by (simp (disch := first | omega | (simp only [z1, z2]; omega)) only [z3, z4, z5, z6, z7, z1, z2, *]; exact rfl)) (by exact rfl)) (by exact sv_slice _ _ _)) ?_; refine rs_cons (rq_quiet rfl (a_faddr (by exact rfl)) (by exact sv_ptr _)) ?_; exact rs_nil) ?_
    refine wD_call rfl rfl rfl (by exact rfl) (by exact rfl) (a_call (by exact rfl) (by exact rfl) (by exact rfl) (by exact rfl)) ?_
    have hxp : Ext h (h1.push (.cells (kc k) true 5)) := hx13.push _
    refine FW.alD (clone96 G.toFnsE (.of (w1.push (.cells (kc k) true 5))) ((hs.ext hxp).log []) (by omega)) (fun _ _ _ q => q.log _) ?_
    rintro v2 h2 hx4 hq
    have hN4 : h1.next + 1 ≤ h2.next := hx4.next
    have k1 : h2.get h.next = some (.cells [.slice a l.length c, .int .i64 kerf] true 1) := by rw [hx4.old _ (by (simp only [z1, z2]; omega))]; (simp (disch := first | omega | (simp only [z1, z2]; omega)) only [z3, z4, z5, z6, z7, z1, z2, *]; done)
    have k2 : h2.get (h.next + 1) = some (.cells (kc k) true 1) := by rw [hx4.old _ (by (simp only [z1, z2]; omega))]; (simp (disch := first | omega | (simp only [z1, z2]; omega)) only [z3, z4, z5, z6, z7, z1, z2, *]; done)
    have k3 : h2.get (h.next + 2) = some (.cells [.slice none 0 0, .int .i64 0] true 1) := by rw [hx4.old _ (by (simp only [z1, z2]; omega))]; (simp (disch := first | omega | (simp only [z1, z2]; omega)) only [z3, z4, z5, z6, z7, z1, z2, *]; done)
    have k4 : h2.get h1.next = some (.cells (kc k) true 5) := by rw [hx4.old _ (by (simp only [z1, z2]; omega))]; (simp (disch := first | omega | (simp only [z1, z2]; omega)) only [z3, z4, z5, z6, z7, z1, z2, *]; exact rfl)
    refine ⟨_, by apply ra_keepC rfl (rq_made rfl) (by rfl); apply ra_keepC rfl (rq_quiet rfl (a_loadN (by exact rfl) (by assumption) (by exact rfl) (by exact rfl)) (by exact sv_agg (by refine sl_cons (s1_int _ _) ?_; refine sl_cons (s1_int _ _) ?_; refine sl_cons (s1_int _ _) ?_; refine sl_cons (s1_int _ _) ?_; refine sl_cons (s1_bool _) ?_; exact sl_nil))) rfl; apply ra_dropC rfl; apply ra_dropC rfl; exact ra_nil, ?_⟩
    skip
    refine wD_app_own (l2 := [k]) rfl rfl rfl (by exact rfl) (by exact rfl) (by exact rfl) hq (by omega) (src_log (src_slice k4 rfl rfl)) (by simp) (by simp) hx4 (Nat.le_refl _) (show h.next ≤ h1.next + 1 by omega) ?_
    intro h3 lg hx5 hN5 g5
    have hx05 : Ext h h3 := hxp.trans hx5
    have m1 : h3.get h.next = some (.cells [.slice a l.length c, .int .i64 kerf] true 1) := by rw [hx5.old _ (by (simp only [z1, z2]; omega))]; (simp (disch := first | omega | (simp only [z1, z2]; omega)) only [z3, z4, z5, z6, z7, z1, z2, *]; done)
    have m3 : h3.get (h.next + 2) = some (.cells [.slice none 0 0, .int .i64 0] true 1) := by rw [hx5.old _ (by (simp only [z1, z2]; omega))]; (simp (disch := first | omega | (simp only [z1, z2]; omega)) only [z3, z4, z5, z6, z7, z1, z2, *]; done)
    clear g1 g2 g3 k1 k2 k3 k4 hq
    refine ⟨_, by apply ra_dropC rfl; apply ra_dropC rfl; exact ra_nil, ?_⟩
    refine wD_quiet rfl rfl rfl (by exact rfl) (by exact rfl) (by exact rfl) (a_faddr (by exact rfl)) ?_; refine wD_store rfl rfl rfl (by exact rfl) (by exact rfl) (by exact rfl) (by assumption) (by exact rfl) (by exact rfl) (by omega) (by omega) (by apply ra_dropC rfl; exact ra_nil) ?_; refine wD_nil ?_
    refine kR_k (by simp only [keepE, dstE, geT, paramsE, cond_true, cond_false, Nat.beq]; exact rfl) ?_; refine kS_n ?_; refine wE_seq ?_; refine wE_region ?_
    refine wO_val (a_loadN (by exact rfl) (by (simp (disch := first | omega | (simp only [z1, z2]; omega)) only [z3, z4, z5, z6, z7, z1, z2, *]; exact rfl)) (by exact rfl) (by exact rfl)) ?_
    refine wO_call (a_call (by exact rfl) (by exact rfl) (by exact rfl) (by exact rfl)) ?_
    have e1 : (l ++ [k]).length = l.length + [k].length := List.length_append
    have e2 : l.length + [k].length < 1000000 := by simp; omega
    have hx6 : Ext h (h3.wr h.next h.next (.cells [.slice (some ⟨h2.next, 0, none⟩) (l.length + [k].length) UNK, .int .i64 kerf] true 1)) := hx05.wr (Nat.le_refl _) (Nat.le_refl _)
    have g6 : (h3.wr h.next h.next (.cells [.slice (some ⟨h2.next, 0, none⟩) (l.length + [k].length) UNK, .int .i64 kerf] true 1)).get h2.next = some (.cells (kcs (l ++ [k])) true 5) := (z5 (by omega)).trans g5
    have g7 : (h3.wr h.next h.next (.cells [.slice (some ⟨h2.next, 0, none⟩) (l.length + [k].length) UNK, .int .i64 kerf] true 1)).get (h.next + 2) = some (.cells [.slice none 0 0, .int .i64 0] true 1) := (z5 (by omega)).trans m3
    refine FW.al (changed113 G.toFnsE (.of (hx6.wf hr.wf)) ((full_slice (by simp only [z2]; omega) g6 e1 (by omega)).log []) kerf e2) (fun _ _ _ q => q) ?_
    rintro _ h5 hx7 rfl
    have hN7 : h3.next ≤ h5.next := hx7.next
    have g8 := (hx7.old _ (show h.next + 2 < h3.next by omega)).trans g7
    have g9 := (hx7.old _ (show h2.next < h3.next by omega)).trans g6
    unfold changedV changeQ
    by_cases hk : chk kerf (l ++ [k]) = 0
    · simp only [hk, ↓reduceIte]
      refine wO_val (a_extract (by exact rfl) (by exact rfl)) ?_; refine wO_val (a_extract (by exact rfl) (by exact rfl)) ?_; refine wO_val (a_store (by exact rfl) (by exact rfl) (by assumption) (by exact rfl) (by exact rfl)) ?_; refine wO_val (a_mov (by exact rfl)) ?_; refine wO_nil ?_; refine kR_k (by simp only [keepE, dstE, geT, paramsE, cond_true, cond_false, Nat.beq]; exact rfl) ?_; refine kS_n ?_
      refine wE_ret ?_
      refine endA_ret (vs := [.agg (List.toArray [.slice (some ⟨h2.next, 0, none⟩) (l.length + [k].length) UNK, .int .i64 kerf]), .int .i64 0]) ((Heap.log_wr_new (Nat.le_add_right _ 2)).trans ((hx6.trans hx7).log.trans hr.log)) ?_ ?_
      · exact res_cells (b := h.next + 2) rfl (Heap.get_wr_new g8) rfl rfl (res_slot rfl res_nil)
      · refine SawQ.ret ?_
        rw [e1]
        exact full_slice (show h2.next < h5.next by omega) ((z5 (show h2.next ≠ h.next + 2 by omega)).trans g9) e1 (by omega)
    · simp only [if_neg hk]
      refine wO_val (a_extract (by exact rfl) (by exact rfl)) ?_; refine wO_val (a_extract (by exact rfl) (by exact rfl)) ?_; refine wO_val (a_store (by exact rfl) (by exact rfl) (by assumption) (by exact rfl) (by exact rfl)) ?_; refine wO_val (a_mov (by exact rfl)) ?_; refine wO_nil ?_; refine kR_k (by simp only [keepE, dstE, geT, paramsE, cond_true, cond_false, Nat.beq]; exact rfl) ?_; refine kS_n ?_
      refine wE_ret ?_
      refine endA_ret (vs := [.agg (List.toArray [.slice none 0 0, .int .i64 0]), .int .i64 (chk kerf (l ++ [k]))]) ((Heap.log_wr_new (Nat.le_add_right _ 2)).trans ((hx6.trans hx7).log.trans hr.log)) ?_ ?_
      · exact res_cells (b := h.next + 2) rfl (Heap.get_wr_new g8) rfl rfl (res_slot rfl res_nil)
      · exact SawQ.ret .nil
  · simp only [if_neg ha]
    refine wO_val (a_mov (by exact rfl)) ?_; refine wO_val (a_extract (by exact rfl) (by exact rfl)) ?_; refine wO_val (a_extract (by exact rfl) (by exact rfl)) ?_; refine wO_val (a_mov (by exact rfl)) ?_; refine wO_val (a_mov (by exact rfl)) ?_; refine wO_nil ?_; refine kR_k (by simp only [keepE, dstE, geT, paramsE, cond_true, cond_false, Nat.beq]; exact rfl) ?_; refine kS_n ?_; refine wE_seq ?_
    refine wE_region ?_; refine wO_val (a_mov (by exact rfl)) ?_; refine wO_val (a_num (by exact rfl) (by exact rfl) (by exact m_neqT (by omega))) ?_; refine wO_nil ?_; refine kR_k (by simp only [keepE, dstE, geT, paramsE, cond_true, cond_false, Nat.beq]; exact rfl) ?_; refine kS_n ?_; refine wE_true (by exact rfl) ?_; refine wE_seq ?_; refine wE_region ?_; refine wO_val (a_build (by exact rfl)) ?_
    refine wO_val (a_mov (by exact rfl)) ?_; refine wO_val (a_store (by exact rfl) (by exact rfl) (by assumption) (by exact rfl) (by exact rfl)) ?_; refine wO_val (a_mov (by exact rfl)) ?_; refine wO_nil ?_; refine kR_k (by simp only [keepE, dstE, geT, paramsE, cond_true, cond_false, Nat.beq]; exact rfl) ?_; refine kS_n ?_; refine wE_ret ?_; refine kS_r ?_
    refine endA_ret (vs := [.agg (List.toArray [.slice none 0 0, .int .i64 0]), .int .i64 (chk kerf l)]) ((Heap.log_wr_new (Nat.le_add_right _ 2)).trans (hx13.log.trans hr.log)) ?_ ?_
    · exact res_cells (b := h.next + 2) rfl (Heap.get_wr_new g3) rfl rfl (res_slot rfl res_nil)
    · exact SawQ.ret .nil
end Go.A.Pk
end
section
set_option maxRecDepth 100000
namespace Go.A.Pk
variable {T : Nat → Option AFunc}
structure FnsI (T : Nat → Option AFunc) : Prop extends FnsG T where
  f62 : T 62 = some f62
  f63 : T 63 = some f63
  f64 : T 64 = some f64
  f65 : T 65 = some f65
theorem asked_zero {kerf : Int} {l : List Kd} {p : Prop} [Decidable p] (h : asked kerf l p = 0) : chk kerf l = 0 ∧ p := by
  unfold asked at h
  by_cases h0 : chk kerf l = 0
  · rw [if_pos h0] at h
    by_cases hp : p
    · exact ⟨h0, hp⟩
    · rw [if_neg hp] at h; omega
  · rw [if_neg h0] at h; exact absurd h h0
set_option maxHeartbeats 4000000 in
theorem raised62 (G : FnsI T) {h : Heap} (hr : Rdy h) {a : Option Addr} {n c : Nat} {l : List Kd} (hs : SliceOf h 5 (.slice a n c) n (kcs l)) (kerf : Int) (hn : n < 1000000) (i v : Int) :
    Al T 62 [.agg #[.slice a n c, .int .i64 kerf], .int .i64 i, .int .i64 v] h (orErr (asked kerf l (0 ≤ i ∧ i < n)) (changeQ kerf (raise l i v))) := by
  refine .of G.p G.f62 hr (orErr.gc SawQ.gc) ?_
  have hx : Ext h ((h.push (.cells [.slice a n c, .int .i64 kerf] true 1)).push (.cells [.slice none 0 0, .int .i64 0] true 1)) := ((Ext.refl h).push _).push _
  obtain rfl : n = l.length := by have := hs.len; rw [kcs_length] at this; omega
  refine wE_seq ?_; refine wE_region ?_; refine wO_val (a_box (by exact rfl) (by exact rfl)) ?_; refine wO_val a_new ?_; refine wO_val (a_mov (by exact rfl)) ?_; refine wO_nil ?_; refine kR_k (by simp only [keepE, dstE, geT, paramsE, cond_true, cond_false, Nat.beq]; exact rfl) ?_; refine kS_n ?_; refine wE_seq ?_; refine wE_region ?_
  refine wO_val (a_loadN (by exact rfl) (by (simp (disch := first | omega | (simp only [z1, z2]; omega)) only [z3, z4, z5, z6, z7, z1, z2, *]; exact rfl)) (by exact rfl) (by exact rfl)) ?_; refine wO_val (a_mov (by exact rfl)) ?_
  refine wO_call (a_call (by exact rfl) (by exact rfl) (by exact rfl) (by exact rfl)) ?_
  refine FW.pu (askedKind99 G.toFnsD (.of (hx.wf hr.wf)) ((hs.ext hx).log []) kerf i hn) ?_
  unfold orErr
  by_cases ha : asked kerf l (0 ≤ i ∧ i < l.length) = 0
  · simp only [if_pos ha]
    have hP := asked_zero ha
    obtain ⟨j, rfl⟩ := Int.eq_ofNat_of_zero_le hP.2.1
    have hj : j < l.length := by omega
    refine wO_val (a_mov (by exact rfl)) ?_; refine wO_nil ?_; refine kR_k (by simp only [keepE, dstE, geT, paramsE, cond_true, cond_false, Nat.beq]; exact rfl) ?_; refine kS_n ?_; refine wE_seq ?_; refine wE_seq ?_; refine wE_region ?_; refine wO_val (a_mov (by exact rfl)) ?_; refine wO_val (a_num (by exact rfl) (by exact rfl) (by exact m_neqF (by omega))) ?_; refine wO_nil ?_
    refine kR_k (by simp only [keepE, dstE, geT, paramsE, cond_true, cond_false, Nat.beq]; exact rfl) ?_; refine kS_n ?_; refine wE_false (by exact rfl) ?_; refine wE_skip ?_; refine kS_n ?_; refine wE_seq ?_; refine wE_region ?_
    refine wO_val (a_loadN (by exact rfl) (by (simp (disch := first | omega | (simp only [z1, z2]; omega)) only [z3, z4, z5, z6, z7, z1, z2, *]; exact rfl)) (by exact rfl) (by exact rfl)) ?_
    refine wO_call (a_call (by exact rfl) (by exact rfl) (by exact rfl) (by exact rfl)) ?_
    refine FW.al (copied115 G.toFnsG (.of (hx.wf hr.wf)) ((hs.ext hx).log []) kerf hn) (fun _ _ _ ⟨s, q1, q2⟩ => ⟨s, q1, q2.log _⟩) ?_
    rintro _ h2 hx4 ⟨s, rfl, hq⟩
    cases hq with
    | nil => simp at hj
    | empty => simp at hj
    | @full b2 n2 _ q1 q2 q3 q4 q5 =>
      subst q4
      have q1' : h.next + 2 ≤ b2 := q1
      have hN4 : h.next + 2 ≤ h2.next := hx4.next
      have g4 : h2.get (h.next + 1) = some (.cells [.slice none 0 0, .int .i64 0] true 1) := by rw [hx4.old _ (by (simp only [z1, z2]; omega))]; (simp (disch := first | omega | (simp only [z1, z2]; omega) | (simp only [z1, z2]; done) | fail) only [z8, z4, z5, z9, z7, z1, z2, *]; done)
      refine wO_val a_new ?_; refine wO_val (a_store (by exact rfl) (by exact rfl) (by (simp (disch := first | omega | (simp only [z1, z2]; omega)) only [z3, z4, z5, z6, z7, z1, z2, *]; exact rfl)) (by exact rfl) (by exact rfl)) ?_; refine wO_nil ?_
      refine kR_k (by simp only [keepE, dstE, geT, paramsE, cond_true, cond_false, Nat.beq]; exact rfl) ?_; refine kS_n ?_; refine wE_seq ?_; refine wE_region ?_; refine wO_val (a_faddr (by exact rfl)) ?_
      refine wO_val (a_load (by exact rfl) (by (simp (disch := first | omega | (simp only [z1, z2]; omega)) only [z3, z4, z5, z6, z7, z1, z2, *]; exact rfl)) (by exact rfl)) ?_; refine wO_val (a_mov (by exact rfl)) ?_; refine wO_val (a_mov (by exact rfl)) ?_
      refine wO_val (a_iaddrS (by exact rfl) (by exact rfl) hj) ?_
      refine wO_val (a_faddr (by exact rfl)) ?_
      have s1 : (Nat.beq (llen (cellsOf (.int .i64 v))) 1 && Nat.ble (0 + j * 5 + 3 + 1) (llen (kcs l)) && ones (cellsOf (.int .i64 v))) = true := by
        have : Nat.ble (0 + j * 5 + 3 + 1) (llen (kcs l)) = true := by rw [ble_eq, llen_eq, kcs_length]; simp; omega
        rw [this]; rfl
      have s2 : lputs (kcs l) (0 + j * 5 + 3) (cellsOf (.int .i64 v)) = kcs (raise l j v) := by
        show lset (kcs l) (0 + j * 5 + 3) (.int .i64 v) = _
        rw [Nat.zero_add]; exact kcs_set l j v
      refine wO_val (a_store (vs := kcs l) (by exact rfl) (by exact rfl) (by (simp (disch := first | omega | (simp only [z1, z2]; omega)) only [z3, z4, z5, z6, z7, z1, z2, *]; exact rfl)) s1 s2) ?_
      refine wO_nil ?_; refine kR_k (by simp only [keepE, dstE, geT, paramsE, cond_true, cond_false, Nat.beq]; exact rfl) ?_; refine kS_n ?_; refine wE_seq ?_; refine wE_region ?_
      refine wO_val (a_loadN (by exact rfl) (by (simp (disch := first | omega | (simp only [z1, z2]; omega)) only [z3, z4, z5, z6, z7, z1, z2, *]; exact rfl)) (by exact rfl) (by exact rfl)) ?_
      refine wO_call (a_call (by exact rfl) (by exact rfl) (by exact rfl) (by exact rfl)) ?_
      have hxz : Ext h (((h2.push (AObj.cells [.slice none 0 0, .int .i64 0] true 1)).wr h.next h2.next (.cells [.slice (some ⟨b2, 0, none⟩) l.length UNK, .int .i64 kerf] true 1)).wr h.next b2 (.cells (kcs (raise l j v)) true 5)) := (((hx.trans hx4).push _).wr (show h.next ≤ h2.next by omega) (by omega)).wr (by omega) (by omega)
      have gB : (((h2.push (AObj.cells [.slice none 0 0, .int .i64 0] true 1)).wr h.next h2.next (.cells [.slice (some ⟨b2, 0, none⟩) l.length UNK, .int .i64 kerf] true 1)).wr h.next b2 (.cells (kcs (raise l j v)) true 5)).get (b2) = some (.cells (kcs (raise l j v)) true 5) := by (simp (disch := first | omega | (simp only [z1, z2]; omega)) only [z3, z4, z5, z6, z7, z1, z2, *]; done)
      have gR : (((h2.push (AObj.cells [.slice none 0 0, .int .i64 0] true 1)).wr h.next h2.next (.cells [.slice (some ⟨b2, 0, none⟩) l.length UNK, .int .i64 kerf] true 1)).wr h.next b2 (.cells (kcs (raise l j v)) true 5)).get (h.next + 1) = some (.cells [.slice none 0 0, .int .i64 0] true 1) := by (simp (disch := first | omega | (simp only [z1, z2]; omega)) only [z3, z4, z5, z6, z7, z1, z2, *]; done)
      have eN : (raise l j v).length = l.length := raise_len l j v
      refine FW.al (changed116 G.toFnsG (.of (hxz.wf hr.wf)) ((full_slice (by simp only [z2, z1]; omega) gB eN (by omega)).log []) kerf (by omega)) (fun _ _ _ q => q) ?_
      rintro _ h5 hx7 rfl
      have hN7 : (((h2.push (AObj.cells [.slice none 0 0, .int .i64 0] true 1)).wr h.next h2.next (.cells [.slice (some ⟨b2, 0, none⟩) l.length UNK, .int .i64 kerf] true 1)).wr h.next b2 (.cells (kcs (raise l j v)) true 5)).next ≤ h5.next := hx7.next
      simp only [z2, z1] at hN7
      have g8 := (hx7.old _ (show h.next + 1 < (((h2.push (AObj.cells [.slice none 0 0, .int .i64 0] true 1)).wr h.next h2.next (.cells [.slice (some ⟨b2, 0, none⟩) l.length UNK, .int .i64 kerf] true 1)).wr h.next b2 (.cells (kcs (raise l j v)) true 5)).next by simp only [z2, z1]; omega)).trans gR
      have g9 := (hx7.old _ (show b2 < (((h2.push (AObj.cells [.slice none 0 0, .int .i64 0] true 1)).wr h.next h2.next (.cells [.slice (some ⟨b2, 0, none⟩) l.length UNK, .int .i64 kerf] true 1)).wr h.next b2 (.cells (kcs (raise l j v)) true 5)).next by simp only [z2, z1]; omega)).trans gB
      have hlz := (hxz.trans hx7).log.trans hr.log
      clear hx7 hxz gB gR
      unfold changedV changeQ
      by_cases hk : chk kerf (raise l j v) = 0
      · simp only [hk, ↓reduceIte]
        refine wO_val (a_extract (by exact rfl) (by exact rfl)) ?_; refine wO_val (a_extract (by exact rfl) (by exact rfl)) ?_; refine wO_val (a_store (by exact rfl) (by exact rfl) (by assumption) (by exact rfl) (by exact rfl)) ?_; refine wO_val (a_mov (by exact rfl)) ?_; refine wO_nil ?_; refine kR_k (by simp only [keepE, dstE, geT, paramsE, cond_true, cond_false, Nat.beq]; exact rfl) ?_; refine kS_n ?_
        refine wE_ret ?_
        refine endA_ret (vs := [.agg (List.toArray [.slice (some ⟨b2, 0, none⟩) (l.length) UNK, .int .i64 kerf]), .int .i64 0]) ((Heap.log_wr_new (Nat.le_succ _)).trans hlz) ?_ ?_
        · exact res_cells (b := h.next + 1) rfl (Heap.get_wr_new g8) rfl rfl (res_slot rfl res_nil)
        · refine SawQ.ret ?_
          rw [eN]
          exact full_slice (show b2 < h5.next by omega) ((z5 (show b2 ≠ h.next + 1 by omega)).trans g9) eN (by omega)
      · simp only [if_neg hk]
        refine wO_val (a_extract (by exact rfl) (by exact rfl)) ?_; refine wO_val (a_extract (by exact rfl) (by exact rfl)) ?_; refine wO_val (a_store (by exact rfl) (by exact rfl) (by assumption) (by exact rfl) (by exact rfl)) ?_; refine wO_val (a_mov (by exact rfl)) ?_; refine wO_nil ?_; refine kR_k (by simp only [keepE, dstE, geT, paramsE, cond_true, cond_false, Nat.beq]; exact rfl) ?_; refine kS_n ?_
        refine wE_ret ?_
        refine endA_ret (vs := [.agg (List.toArray [.slice none 0 0, .int .i64 0]), .int .i64 (chk kerf (raise l j v))]) ((Heap.log_wr_new (Nat.le_succ _)).trans hlz) ?_ ?_
        · exact res_cells (b := h.next + 1) rfl (Heap.get_wr_new g8) rfl rfl (res_slot rfl res_nil)
        · exact SawQ.ret .nil
  · simp only [if_neg ha]
    refine wO_val (a_mov (by exact rfl)) ?_; refine wO_nil ?_; refine kR_k (by simp only [keepE, dstE, geT, paramsE, cond_true, cond_false, Nat.beq]; exact rfl) ?_; refine kS_n ?_; refine wE_seq ?_; refine wE_seq ?_; refine wE_region ?_; refine wO_val (a_mov (by exact rfl)) ?_; refine wO_val (a_num (by exact rfl) (by exact rfl) (by exact m_neqT (by omega))) ?_; refine wO_nil ?_
    refine kR_k (by simp only [keepE, dstE, geT, paramsE, cond_true, cond_false, Nat.beq]; exact rfl) ?_; refine kS_n ?_; refine wE_true (by exact rfl) ?_; refine wE_seq ?_; refine wE_region ?_; refine wO_val (a_build (by exact rfl)) ?_; refine wO_val (a_mov (by exact rfl)) ?_
    refine wO_val (a_store (by exact rfl) (by exact rfl) (by (simp (disch := first | omega | (simp only [z1, z2]; omega) | (simp only [z1, z2]; done) | fail) only [z8, z4, z5, z9, z7, z1, z2, *]; exact rfl)) (by exact rfl) (by exact rfl)) ?_
    refine wO_val (a_mov (by exact rfl)) ?_; refine wO_nil ?_; refine kR_k (by simp only [keepE, dstE, geT, paramsE, cond_true, cond_false, Nat.beq]; exact rfl) ?_; refine kS_n ?_; refine wE_ret ?_; refine kS_r ?_
    refine endA_ret (vs := [.agg (List.toArray [.slice none 0 0, .int .i64 0]), .int .i64 (asked kerf l (0 ≤ i ∧ i < l.length))]) ((Heap.log_wr_new (Nat.le_succ _)).trans (hx.log.trans hr.log)) ?_ ?_
    · exact res_cells (b := h.next + 1) rfl (by (simp (disch := first | omega | (simp only [z1, z2]; omega) | (simp only [z1, z2]; done) | fail) only [z8, z4, z5, z9, z7, z1, z2, *]; exact rfl)) rfl rfl (res_slot rfl res_nil)
    · exact SawQ.ret .nil
end Go.A.Pk
end
section
set_option maxRecDepth 100000
namespace Go.A.Pk
variable {T : Nat → Option AFunc}
theorem OwnK.form {lo : Nat} {h : Heap} {v : Value} {l : List Kd} (s : OwnK lo h v l) : ∃ a c, v = .slice a l.length c := by
  cases s with
  | nil => exact ⟨_, _, rfl⟩
  | empty => exact ⟨_, _, rfl⟩
  | full _ _ _ h4 => subst h4; exact ⟨_, _, rfl⟩
set_option maxHeartbeats 4000000 in
theorem with63 (G : FnsI T) {h : Heap} (hr : Rdy h) {a : Option Addr} {n c : Nat} {l : List Kd} (hs : SliceOf h 5 (.slice a n c) n (kcs l)) (kerf : Int) (hn : n < 999999) (k : Kd) :
    Al T 63 [.agg #[.slice a n c, .int .i64 kerf], .agg (kc k).toArray] h (orErr (chk kerf l) (changeQ kerf (l ++ [k]))) := by
  refine .of G.p G.f63 hr (orErr.gc SawQ.gc) ?_
  have hx : Ext h (((h.push (.cells [.slice a n c, .int .i64 kerf] true 1)).push (.cells (kc k) true 1)).push (.cells [.slice none 0 0, .int .i64 0] true 1)) := (((Ext.refl h).push _).push _).push _
  obtain rfl : n = l.length := by have := hs.len; rw [kcs_length] at this; omega
  refine wE_seq ?_; refine wE_region ?_; refine wO_val (a_box (by exact rfl) (by exact rfl)) ?_; refine wO_val (a_box (by exact rfl) (by exact rfl)) ?_; refine wO_val a_new ?_; refine wO_val (a_mov (by exact rfl)) ?_; refine wO_nil ?_; refine kR_k (by simp only [keepE, dstE, geT, paramsE, cond_true, cond_false, Nat.beq]; exact rfl) ?_; refine kS_n ?_; refine wE_seq ?_; refine wE_region ?_
  refine wO_val (a_loadN (by exact rfl) (by (simp (disch := first | omega | (simp only [z1, z2]; omega)) only [z3, z4, z5, z6, z7, z1, z2, *]; exact rfl)) (by exact rfl) (by exact rfl)) ?_
  refine wO_call (a_call (by exact rfl) (by exact rfl) (by exact rfl) (by exact rfl)) ?_
  refine FW.pu (check67 G.toFnsB (.of (hx.wf hr.wf)) ((hs.ext hx).log []) kerf (by omega)) ?_
  unfold orErr
  by_cases ha : chk kerf l = 0
  · simp only [if_pos ha]
    rw [ha]
    refine wO_val (a_mov (by exact rfl)) ?_; refine wO_nil ?_; refine kR_k (by simp only [keepE, dstE, geT, paramsE, cond_true, cond_false, Nat.beq]; exact rfl) ?_; refine kS_n ?_; refine wE_seq ?_; refine wE_seq ?_; refine wE_region ?_; refine wO_val (a_mov (by exact rfl)) ?_; refine wO_val (a_num (by exact rfl) (by exact rfl) (by exact m_neqF (by omega))) ?_; refine wO_nil ?_
    refine kR_k (by simp only [keepE, dstE, geT, paramsE, cond_true, cond_false, Nat.beq]; exact rfl) ?_; refine kS_n ?_; refine wE_false (by exact rfl) ?_; refine wE_skip ?_; refine kS_n ?_; refine wE_seq ?_; refine wE_region ?_
    refine wO_val (a_loadN (by exact rfl) (by (simp (disch := first | omega | (simp only [z1, z2]; omega)) only [z3, z4, z5, z6, z7, z1, z2, *]; exact rfl)) (by exact rfl) (by exact rfl)) ?_
    refine wO_call (a_call (by exact rfl) (by exact rfl) (by exact rfl) (by exact rfl)) ?_
    refine FW.al (copied115 G.toFnsG (.of (hx.wf hr.wf)) ((hs.ext hx).log []) kerf (by omega)) (fun _ _ _ ⟨s, q1, q2⟩ => ⟨s, q1, q2.log _⟩) ?_
    rintro _ h2 hx4 ⟨s, rfl, hq⟩
    have hN4 : h.next + 3 ≤ h2.next := hx4.next
    have k2 : h2.get (h.next + 1) = some (.cells (kc k) true 1) := by rw [hx4.old _ (by (simp only [z1, z2]; omega))]; (simp (disch := first | omega | (simp only [z1, z2]; omega) | (simp only [z1, z2]; done) | fail) only [z8, z4, z5, z9, z7, z1, z2, *]; exact rfl)
    have k3 : h2.get (h.next + 2) = some (.cells [.slice none 0 0, .int .i64 0] true 1) := by rw [hx4.old _ (by (simp only [z1, z2]; omega))]; (simp (disch := first | omega | (simp only [z1, z2]; omega) | (simp only [z1, z2]; done) | fail) only [z8, z4, z5, z9, z7, z1, z2, *]; done)
    obtain ⟨a2, c2, rfl⟩ := hq.form
    refine wO_val a_new ?_; refine wO_val (a_store (by exact rfl) (by exact rfl) (by (simp (disch := first | omega | (simp only [z1, z2]; omega)) only [z3, z4, z5, z6, z7, z1, z2, *]; exact rfl)) (by exact rfl) (by exact rfl)) ?_; refine wO_nil ?_
    refine kR_k (by simp only [keepE, dstE, geT, paramsE, cond_true, cond_false, Nat.beq]; exact rfl) ?_; refine kS_n ?_; refine wE_seq ?_; refine wE_region ?_; refine wO_val (a_faddr (by exact rfl)) ?_
    refine wO_val (a_load (by exact rfl) (by (simp (disch := first | omega | (simp only [z1, z2]; omega)) only [z3, z4, z5, z6, z7, z1, z2, *]; exact rfl)) (by exact rfl)) ?_
    refine wO_val (a_loadN (by exact rfl) (by (simp (disch := first | omega | (simp only [z1, z2]; omega)) only [z3, z4, z5, z6, z7, z1, z2, *]; exact rfl)) (by exact rfl) (by exact rfl)) ?_; refine wO_val (a_bslice (by exact rfl) (by exact rfl)) ?_
    have hxp := ((Ext.refl h2).push (.cells [.slice none 0 0, .int .i64 0] true 1) |>.wr (base := h.next) (x := h2.next) (o := .cells [.slice a2 l.length c2, .int .i64 kerf] true 1) (Nat.le_refl _) (by omega)).push (.cells (kc k) true 5)
    refine wO_app_own (a := h) (l2 := [k]) (by exact rfl) (by exact rfl) (hq.ext hxp) (by omega) (src_slice (by (simp (disch := first | omega | (simp only [z1, z2]; omega) | (simp only [z1, z2]; done) | fail) only [z8, z4, z5, z9, z7, z1, z2, *]; exact rfl)) rfl rfl) (by simp) (by simp) ((hx.trans hx4).trans hxp) (show h.next ≤ h.next + 3 by omega) (show h.next ≤ h.next + 3 by omega) ?_
    intro h3 hx5 hN5 hkeep g5
    simp only [z2, z1] at hN5
    have m7 : h3.get h2.next = some (.cells [.slice a2 l.length c2, .int .i64 kerf] true 1) := by
      rw [hkeep _ (by (simp only [z1, z2]; omega)) (hq.wb (.inl (Nat.le_refl _)))]; (simp (disch := first | omega | (simp only [z1, z2]; omega)) only [z3, z4, z5, z6, z7, z1, z2, *]; exact rfl)
    have m3 : h3.get (h.next + 2) = some (.cells [.slice none 0 0, .int .i64 0] true 1) := by
      rw [hkeep _ (by (simp only [z1, z2]; omega)) (hq.wb (x := h.next + 2) (.inr (show h.next + 2 < h.next + 3 by omega)))]; (simp (disch := first | omega | (simp only [z1, z2]; omega)) only [z3, z4, z5, z6, z7, z1, z2, *]; done)
    have g5' : h3.get (h2.next + 2) = some (.cells (kcs (l ++ [k])) true 5) := g5
    clear hkeep k2 k3 g5 hq hxp
    have e2 : l.length + [k].length < 1000000 := by simp; omega
    refine wO_val (a_faddr (by exact rfl)) ?_; refine wO_val (a_store (by exact rfl) (by exact rfl) (by assumption) (by exact rfl) (by exact rfl)) ?_; refine wO_nil ?_; refine kR_k (by simp only [keepE, dstE, geT, paramsE, cond_true, cond_false, Nat.beq]; exact rfl) ?_; refine kS_n ?_; refine wE_seq ?_; refine wE_region ?_
    refine wO_val (a_loadN (by exact rfl) (by (simp (disch := first | omega | (simp only [z1, z2]; omega)) only [z3, z4, z5, z6, z7, z1, z2, *]; exact rfl)) (by exact rfl) (by exact rfl)) ?_
    refine wO_call (a_call (by exact rfl) (by exact rfl) (by exact rfl) (by exact rfl)) ?_
    have hxz : Ext h (h3.wr h.next h2.next (.cells [.slice (some ⟨h2.next + 2, 0, none⟩) (l.length + [k].length) UNK, .int .i64 kerf] true 1)) := hx5.wr (show h.next ≤ h2.next by omega) (by omega)
    have gB : (h3.wr h.next h2.next (.cells [.slice (some ⟨h2.next + 2, 0, none⟩) (l.length + [k].length) UNK, .int .i64 kerf] true 1)).get (h2.next + 2) = some (.cells (kcs (l ++ [k])) true 5) := (z5 (by omega)).trans g5'
    have gR : (h3.wr h.next h2.next (.cells [.slice (some ⟨h2.next + 2, 0, none⟩) (l.length + [k].length) UNK, .int .i64 kerf] true 1)).get (h.next + 2) = some (.cells [.slice none 0 0, .int .i64 0] true 1) := (z5 (by omega)).trans m3
    have eN : (l ++ [k]).length = l.length + [k].length := List.length_append
    refine FW.al (changed116 G.toFnsG (.of (hxz.wf hr.wf)) ((full_slice (by simp only [z2, z1]; omega) gB eN (by omega)).log []) kerf (by omega)) (fun _ _ _ q => q) ?_
    rintro _ h5 hx7 rfl
    have hN7 : (h3.wr h.next h2.next (.cells [.slice (some ⟨h2.next + 2, 0, none⟩) (l.length + [k].length) UNK, .int .i64 kerf] true 1)).next ≤ h5.next := hx7.next
    simp only [z2, z1] at hN7
    have g8 := (hx7.old _ (show h.next + 2 < (h3.wr h.next h2.next (.cells [.slice (some ⟨h2.next + 2, 0, none⟩) (l.length + [k].length) UNK, .int .i64 kerf] true 1)).next by simp only [z2, z1]; omega)).trans gR
    have g9 := (hx7.old _ (show h2.next + 2 < (h3.wr h.next h2.next (.cells [.slice (some ⟨h2.next + 2, 0, none⟩) (l.length + [k].length) UNK, .int .i64 kerf] true 1)).next by simp only [z2, z1]; omega)).trans gB
    have hlz := (hxz.trans hx7).log.trans hr.log
    clear hx7 hxz gB gR
    unfold changedV changeQ
    by_cases hk : chk kerf (l ++ [k]) = 0
    · simp only [hk, ↓reduceIte]
      refine wO_val (a_extract (by exact rfl) (by exact rfl)) ?_; refine wO_val (a_extract (by exact rfl) (by exact rfl)) ?_; refine wO_val (a_store (by exact rfl) (by exact rfl) (by assumption) (by exact rfl) (by exact rfl)) ?_; refine wO_val (a_mov (by exact rfl)) ?_; refine wO_nil ?_; refine kR_k (by simp only [keepE, dstE, geT, paramsE, cond_true, cond_false, Nat.beq]; exact rfl) ?_; refine kS_n ?_
      refine wE_ret ?_
      refine endA_ret (vs := [.agg (List.toArray [.slice (some ⟨h2.next + 2, 0, none⟩) (l.length + [k].length) UNK, .int .i64 kerf]), .int .i64 0]) ((Heap.log_wr_new (Nat.le_add_right _ 2)).trans hlz) ?_ ?_
      · exact res_cells (b := h.next + 2) rfl (Heap.get_wr_new g8) rfl rfl (res_slot rfl res_nil)
      · refine SawQ.ret ?_
        rw [eN]
        exact full_slice (show h2.next + 2 < h5.next by omega) ((z5 (show h2.next + 2 ≠ h.next + 2 by omega)).trans g9) eN (by omega)
    · simp only [if_neg hk]
      refine wO_val (a_extract (by exact rfl) (by exact rfl)) ?_; refine wO_val (a_extract (by exact rfl) (by exact rfl)) ?_; refine wO_val (a_store (by exact rfl) (by exact rfl) (by assumption) (by exact rfl) (by exact rfl)) ?_; refine wO_val (a_mov (by exact rfl)) ?_; refine wO_nil ?_; refine kR_k (by simp only [keepE, dstE, geT, paramsE, cond_true, cond_false, Nat.beq]; exact rfl) ?_; refine kS_n ?_
      refine wE_ret ?_
      refine endA_ret (vs := [.agg (List.toArray [.slice none 0 0, .int .i64 0]), .int .i64 (chk kerf (l ++ [k]))]) ((Heap.log_wr_new (Nat.le_add_right _ 2)).trans hlz) ?_ ?_
      · exact res_cells (b := h.next + 2) rfl (Heap.get_wr_new g8) rfl rfl (res_slot rfl res_nil)
      · exact SawQ.ret .nil
  · simp only [if_neg ha]
    refine wO_val (a_mov (by exact rfl)) ?_; refine wO_nil ?_; refine kR_k (by simp only [keepE, dstE, geT, paramsE, cond_true, cond_false, Nat.beq]; exact rfl) ?_; refine kS_n ?_; refine wE_seq ?_; refine wE_seq ?_; refine wE_region ?_; refine wO_val (a_mov (by exact rfl)) ?_; refine wO_val (a_num (by exact rfl) (by exact rfl) (by exact m_neqT (by omega))) ?_; refine wO_nil ?_
    refine kR_k (by simp only [keepE, dstE, geT, paramsE, cond_true, cond_false, Nat.beq]; exact rfl) ?_; refine kS_n ?_; refine wE_true (by exact rfl) ?_; refine wE_seq ?_; refine wE_region ?_; refine wO_val (a_build (by exact rfl)) ?_; refine wO_val (a_mov (by exact rfl)) ?_
    refine wO_val (a_store (by exact rfl) (by exact rfl) (by (simp (disch := first | omega | (simp only [z1, z2]; omega) | (simp only [z1, z2]; done) | fail) only [z8, z4, z5, z9, z7, z1, z2, *]; exact rfl)) (by exact rfl) (by exact rfl)) ?_
    refine wO_val (a_mov (by exact rfl)) ?_; refine wO_nil ?_; refine kR_k (by simp only [keepE, dstE, geT, paramsE, cond_true, cond_false, Nat.beq]; exact rfl) ?_; refine kS_n ?_; refine wE_ret ?_; refine kS_r ?_
    refine endA_ret (vs := [.agg (List.toArray [.slice none 0 0, .int .i64 0]), .int .i64 (chk kerf l)]) ((Heap.log_wr_new (Nat.le_add_right _ 2)).trans (hx.log.trans hr.log)) ?_ ?_
    · exact res_cells (b := h.next + 2) rfl (by (simp (disch := first | omega | (simp only [z1, z2]; omega) | (simp only [z1, z2]; done) | fail) only [z8, z4, z5, z9, z7, z1, z2, *]; exact rfl)) rfl rfl (res_slot rfl res_nil)
    · exact SawQ.ret .nil
end Go.A.Pk
end
