/- Walks of functions, plain laws, the table. -/
import Derived.Test.YteafdpbjocdbbaaGreatDoorMU1
import Derived.Test.YteafdpbjocdbbaaGreatDoorMU0
import Derived.Test.YteafdpbjocdbbaaGreatDoorMH
import Derived.Test.YteafdpbjocdbbaaGreatDoorMT
import Derived.Test.YteafdpbjocdbbaaGreatDoorMD
set_option linter.all false
section
set_option maxRecDepth 100000
namespace Go.A.Pk
variable {T : Nat → Option AFunc}
def idles (kerf : Int) (l : List Kd) (w ht : Int) (n : Nat) : List Int := ((List.range n).filter fun i => decide (kw kerf l i (w, ht) 0 < kb kerf l i (w, ht) 0)).map fun i : Nat => (i : Int)
theorem idles_succ (kerf : Int) (l : List Kd) (w ht : Int) (n : Nat) : idles kerf l w ht (n + 1) = idles kerf l w ht n ++ if kw kerf l n (w, ht) 0 < kb kerf l n (w, ht) 0 then [(n : Int)] else [] := by
  unfold idles
  rw [List.range_succ, List.filter_append, List.map_append]
  congr 1
  by_cases hc : kw kerf l n (w, ht) 0 < kb kerf l n (w, ht) 0 <;> simp [hc]
theorem idles_len (kerf : Int) (l : List Kd) (w ht : Int) : ∀ n, (idles kerf l w ht n).length ≤ n
  | 0 => Nat.le_refl _
  | n + 1 => by
    have := idles_len kerf l w ht n
    rw [idles_succ, List.length_append]
    split
    · simp; omega
    · simp; omega
theorem idles_mem {kerf : Int} {l : List Kd} {w ht : Int} {n k : Nat} (hk : k < n) : (k : Int) ∈ idles kerf l w ht n ↔ kw kerf l k (w, ht) 0 < kb kerf l k (w, ht) 0 := by
  unfold idles
  rw [List.mem_map]
  constructor
  · rintro ⟨a, ha, e⟩
    obtain rfl : a = k := by omega
    simpa using (List.mem_filter.1 ha).2
  · intro hc
    exact ⟨k, List.mem_filter.2 ⟨List.mem_range.2 hk, by simpa using hc⟩, rfl⟩
def idleL (kerf : Int) (l : List Kd) (w ht : Int) : List Int := if asked kerf l (OnB w ht) = 0 then idles kerf l w ht l.length else []
def IntsQ (er : Int) (xs : List Int) (v : Value) (h : Heap) : Prop := ∃ a c, v = .tuple #[.slice a xs.length c, .int .i64 er] ∧ SliceOf h 1 (.slice a xs.length c) xs.length (ints xs)
theorem IntsQ.log {er : Int} {xs : List Int} (v : Value) (h' : Heap) (m : List Nat) (q : IntsQ er xs v h') : IntsQ er xs v { h' with log := m } := by
  obtain ⟨a, c, h1, h2⟩ := q
  exact ⟨a, c, h1, h2.log m⟩
theorem IntsQ.gc {er : Int} {xs : List Int} {h : Heap} (v : Value) (h1 : Heap) (hv : noRef v = true) (q : IntsQ er xs v h1) : IntsQ er xs v h := by
  obtain ⟨a, c, rfl, h2⟩ := q
  refine ⟨a, c, rfl, ?_⟩
  generalize xs.length = n at *
  generalize ints xs = cs at *
  cases h2 with
  | nil => exact .nil
  | mem s _ => simp [noRef, flatL, flat, scalL, scal, scal1] at hv
theorem IntsQ.ret {er : Int} {xs : List Int} {s : Value} {h : Heap} (hs : SliceOf h 1 s xs.length (ints xs)) : IntsQ er xs (.tuple #[s, .int .i64 er]) h := by
  have hi := hs.inv
  rcases hi with ⟨c, rfl, h0, _⟩ | ⟨b, o, c, rfl, _, _⟩
  · refine ⟨none, c, ?_, ?_⟩
    · rw [h0]
    · rw [h0] at hs ⊢; exact hs
  · exact ⟨_, _, rfl, hs⟩
set_option maxHeartbeats 8000000 in
theorem idle44 (F : FnsU T) {h : Heap} (hr : Rdy h) {a : Option Addr} {n c : Nat} {l : List Kd} (hs : SliceOf h 5 (.slice a n c) n (kcs l)) (kerf : Int) (hn : n < 1000000) (w ht : Int) : Al T 44 [.agg #[.slice a n c, .int .i64 kerf], .int .i64 w, .int .i64 ht] h (IntsQ (asked kerf l (OnB w ht)) (idleL kerf l w ht)) := by
  have hp := F.toFnsT.toFnsV.p
  refine .of hp F.f44 hr IntsQ.gc ?_
  have hx : Ext h (h.push (.cells [.slice a n c, .int .i64 kerf] true 1)) := (Ext.refl h).push _
  obtain rfl : n = l.length := by have := hs.len; rw [kcs_length] at this; omega
  refine y4 ?_; refine yB ?_; refine yM ?_; refine yM ?_; refine y3 ?_; refine wE_seq ?_; refine wE_draw ?_
  refine qN ?_
  refine qM ?_; refine qM ?_
  refine qC ?_
  refine FW.puD (board76 F.toFnsW (.of (hx.wf hr.wf)) w ht) (by apply ra_dropC rfl; apply ra_dropC rfl; apply ra_keepC rfl (rq_quiet rfl (a_loadN (by exact rfl) (by (simp (disch := first | omega | (simp only [z1, z2]; omega)) only [z3, z4, z5, z6, z7, z1, z2, *]; exact rfl)) (by exact rfl) (by exact rfl)) (by exact sv_agg (by refine sl_cons (s1_slice _ _ _) ?_; refine sl_cons (s1_int _ _) ?_; exact sl_nil))) rfl; exact ra_nil) ?_
  refine wD_new rfl rfl rfl (by exact rfl) (by exact rfl) (by exact rfl) (a_bslice (by exact rfl) (by exact rfl)) (by refine rs_cons (rq_quiet rfl (a_loadN (by exact rfl) (by (simp (disch := first | omega | (simp only [z1, z2]; omega)) only [z3, z4, z5, z6, z7, z1, z2, *]; exact rfl)) (by exact rfl) (by exact rfl)) (by exact sv_agg (by refine sl_cons (s1_slice _ _ _) ?_; refine sl_cons (s1_int _ _) ?_; exact sl_nil))) ?_; exact rs_nil) ?_
  refine qC ?_
  have hx2 := hx.push (.cells [.bool (decide (OnB w ht))] true 1)
  refine FW.alD (startedB75 F.toFnsW.toFnsE (.of (hx2.wf hr.wf)) ((hs.ext hx2).log []) kerf hn (bl := [decide (OnB w ht)]) (m := 1) (.mem ⟨Nat.lt_succ_self _, ⟨_, _, _, z3 _ _, rfl⟩, rfl⟩ (Nat.le_refl _)) (by omega)) (fun v h' m q => StartQ.logs v h' m q) ?_
  rintro _ h1 hx3 ⟨p, rfl, hst⟩
  rw [startE_one] at hst
  rw [startE_one]
  refine ⟨_, by apply ra_dropC rfl; apply ra_dropC rfl; exact ra_nil, ?_⟩
  have w1 : WF h1 := hx3.wf (hx2.wf hr.wf)
  have hx13 : Ext h h1 := hx2.trans hx3
  have hl1 : h1.log = [] := hx13.log.trans hr.log
  by_cases ha : asked kerf l (OnB w ht) = 0
  · obtain ⟨bb, wa, wc, rfl, gb, hws⟩ := hst ha
    obtain ⟨hc, hb⟩ := asked_zero ha
    have hks := hs.ext hx13
    have hN1 := hx13.next
    have kb1 := WF.get_lt w1 gb
    have hl12 := (chk_iff.1 hc).1
    clear hst hx3
    unfold idleL
    rw [if_pos ha, ha]
    refine qM ?_; refine qE ?_; refine qE ?_
    refine qM ?_; refine qM ?_; refine wD_nil ?_; refine y1 ?_; refine kS_n ?_; refine wE_seq ?_; refine y4 ?_
    refine yM ?_; refine yf ?_; refine y3 ?_; refine yX ?_; refine wE_skip ?_; refine kS_n ?_; refine y4 ?_
    refine yM ?_; refine y3 ?_; refine wE_seq ?_; refine y4 ?_; refine yM ?_; refine wO_val (a_nilchk (by exact rfl)) ?_; refine yF ?_
    refine yF ?_; refine yL ?_; refine yD ?_; refine yM ?_; refine y3 ?_; refine wE_block ?_
    refine wE_loop (fun m e ds h' => ∃ (i : Nat) (v : Value), i ≤ l.length ∧ m = l.length - i ∧ e = [(1, .int .i64 w), (2, .int .i64 ht), (8, .pointer (some ⟨bb, 0, none⟩)), (10, v), (31, .int .i64 l.length), (32, .int .i64 i)] ∧ ds = [] ∧ Ext h1 h' ∧ Own h1.next h' 1 v (idles kerf l w ht i).length (ints (idles kerf l w ht i)))
      ⟨0, _, Nat.zero_le _, rfl, rfl, rfl, .refl _, .nil⟩ ?_
    rintro m e ds h' ⟨i, v, hin, rfl, rfl, rfl, hx', own⟩
    by_cases hlt : i < l.length
    · refine y4 ?_; refine yt ?_; refine y3 ?_; refine wE_seq ?_; refine yY ?_; refine wE_skip ?_; refine kS_n ?_; refine wE_seq ?_; refine wE_block ?_; refine y4 ?_; refine yM ?_; refine yM ?_; refine y3 ?_; refine y4 ?_; refine yM ?_; refine yM ?_; refine yM ?_
      refine yM ?_
      refine yC ?_
      refine FW.pu (kindlyK F (.of (hx'.wf w1)) hc hb hlt (by omega) ((hx'.old _ kb1).trans gb) ((hks.ext hx').log []) ((hws.ext hx').log [])) ?_
      by_cases hlt2 : kw kerf l i (w, ht) 0 < kb kerf l i (w, ht) 0
      · refine yM ?_; refine yE ?_; refine yE ?_; refine yM ?_; refine yM ?_; refine y3 ?_; refine y4 ?_; refine yM ?_; refine yM ?_; refine yt ?_; refine y3 ?_; refine yY ?_; refine wE_region ?_
        refine yM ?_; refine yM ?_; refine wO_val (a_bslice (by exact rfl) (by exact rfl)) ?_
        have hle := idles_len kerf l w ht i
        refine wO_app1 (lo := h1.next) (c1 := [.int .i64 i]) (own.ext ((Ext.refl h').push _)) (by omega) (by omega) (by omega) (by show h1.next ≤ h'.next + 1; have := hx'.next; omega) (by omega) (by exact rfl) (by exact rfl) (src_slice (cs := [.int .i64 i]) (by (simp (disch := first | omega | (simp only [z1, z2]; omega)) only [z3, z4, z5, z6, z7, z1, z2, *]; exact rfl)) rfl rfl) rfl rfl ?_
        intro v' h2 own' hx2'
        have hx4 : Ext h1 h2 := (((hx'.push (.cells [.int .i64 i] true 1)).lx (Nat.le_refl _)).trans hx2').ext
        refine yM ?_; refine wO_nil ?_; refine y1 ?_; refine kB_n ?_; refine kS_n ?_; refine wE_region ?_; refine yinc ?_; refine yM ?_; refine y3 ?_
        refine ⟨l.length - (i + 1), by omega, i + 1, v', by omega, rfl, rfl, rfl, hx4, ?_⟩
        rw [idles_succ, if_pos hlt2, List.length_append]
        have e1 : ints (idles kerf l w ht i ++ [(i : Int)]) = ints (idles kerf l w ht i) ++ [.int .i64 i] := by simp [ints]
        rw [e1]
        exact own'
      · refine yM ?_; refine yE ?_; refine yE ?_; refine yM ?_; refine yM ?_; refine y3 ?_; refine y4 ?_; refine yM ?_; refine yM ?_; refine yf ?_; refine y3 ?_; refine yX ?_; refine wE_skip ?_; refine kB_n ?_
        refine kS_n ?_; refine wE_region ?_; refine yinc ?_; refine yM ?_; refine y3 ?_
        refine ⟨l.length - (i + 1), by omega, i + 1, v, by omega, rfl, rfl, rfl, hx', ?_⟩
        rw [idles_succ, if_neg hlt2, List.append_nil]
        exact own
    · obtain rfl : i = l.length := by omega
      refine y4 ?_; refine yf ?_; refine y3 ?_; refine wE_seq ?_; refine yX ?_; refine wE_exit ?_; refine kS_e ?_; refine kS_e ?_; refine kB_e ?_; refine kS_n ?_
      refine y4 ?_; refine yM ?_; refine yM ?_; refine yM ?_; refine y3 ?_; refine wE_ret ?_
      refine endA_ret (vs := [v, .int .i64 0]) (hx'.log.trans hl1) rfl (.ret (own.slice ?_))
      have := idles_len kerf l w ht l.length
      omega
  · unfold idleL
    rw [if_neg ha]
    refine qM ?_; refine qE ?_; refine qE ?_
    refine qM ?_; refine qM ?_; refine wD_nil ?_; refine y1 ?_; refine kS_n ?_; refine wE_seq ?_; refine y4 ?_
    refine yM ?_; refine yt ?_; refine y3 ?_; refine yY ?_; refine y4 ?_; refine yM ?_
    refine yM ?_; refine yM ?_; refine y3 ?_; refine wE_ret ?_; refine kS_r ?_
    exact endA_ret (vs := [.slice none 0 0, .int .i64 (asked kerf l (OnB w ht))]) hl1 rfl ⟨none, 0, rfl, .nil⟩
end Go.A.Pk
end
section
namespace Go.A.Pk
theorem leavesL_shape {a b : Nat} : ∀ {l m : List Kd} {i : Nat}, (l.map fun k => (k.w, k.h, k.turn)) = (m.map fun k => (k.w, k.h, k.turn)) → leavesL a b l i = leavesL a b m i
  | [], [], _, _ => rfl
  | [], _ :: _, _, h => by simp at h
  | _ :: _, [], _, h => by simp at h
  | x :: l, y :: m, i, h => by
    simp only [List.map_cons, List.cons.injEq, Prod.mk.injEq] at h
    simp only [leavesL]
    rw [leavesL_shape (i := i + 1) h.2]
    unfold leafAt
    rw [h.1.1, h.1.2.1, h.1.2.2]
theorem VF_shape {kerf : Int} {ws : List Int} {l m : List Kd} (h : ∀ a b, leavesL a b l 0 = leavesL a b m 0) : ∀ (n : Nat) (p : Int × Int), VF kerf ws l n p = VF kerf ws m n p
  | 0, _ => rfl
  | n + 1, p => by
    rw [VF, VF, h]
    simp only [VF_shape h n]
theorem UF_shape {kerf : Int} {ws : List Int} {l m : List Kd} {kind : Nat} (h : ∀ a b, leavesL a b l 0 = leavesL a b m 0) : ∀ (n : Nat) (p : Int × Int), UF kerf ws l kind n p = UF kerf ws m kind n p
  | 0, _ => rfl
  | n + 1, p => by
    rw [UF, UF, h]
    simp only [UF_shape h n, V, VF_shape h]
theorem raise_shape (l : List Kd) (i v : Int) : ((raise l i v).map fun k => (k.w, k.h, k.turn)) = l.map fun k => (k.w, k.h, k.turn) := by
  unfold raise
  apply List.ext_getElem?
  intro j
  rw [List.getElem?_map, List.getElem?_map, List.getElem?_modify]
  split
  · cases l[j]? <;> rfl
  · simp
theorem raise_ws {l : List Kd} {k : Nat} (v : Int) : wsOf (raise l k v) = (wsOf l).set k v := by
  unfold raise wsOf
  apply List.ext_getElem?
  intro j
  rw [List.getElem?_map, List.getElem?_modify, List.getElem?_set]
  simp only [Int.toNat_natCast]
  by_cases h : k = j
  · subst h
    by_cases hl : k < l.length
    · simp [hl]
    · simp [hl]
  · simp [h]
theorem kw_raise {kerf : Int} {l : List Kd} {k : Nat} (hk : k < l.length) (d : Int) (p : Int × Int) : kw kerf (raise l k ((wsOf l).getD k 0 + d)) k p 0 = kw kerf l k p d ∧ kb kerf (raise l k ((wsOf l).getD k 0 + d)) k p 0 = kb kerf l k p d := by
  unfold kw kb
  rw [wsM_zero (by rw [raise_len]; exact hk), raise_ws]
  exact ⟨UF_shape (fun a b => leavesL_shape (raise_shape l k _)) _ _, VF_shape (fun a b => leavesL_shape (raise_shape l k _)) _ _⟩
theorem raise_get {l : List Kd} {k j : Nat} {v : Int} {x : Kd} (h : (raise l k v)[j]? = some x) : ∃ y, l[j]? = some y ∧ x.id = y.id ∧ x.w = y.w ∧ x.h = y.h ∧ ((k = j ∧ x.worth = v) ∨ (k ≠ j ∧ x.worth = y.worth)) := by
  unfold raise at h
  rw [List.getElem?_modify] at h
  simp only [Int.toNat_natCast] at h
  split at h
  · rename_i hj
    cases e : l[j]? with
    | none => rw [e] at h; cases h
    | some y => rw [e] at h; cases h; exact ⟨y, rfl, rfl, rfl, rfl, .inl ⟨hj, rfl⟩⟩
  · rename_i hj
    cases e : l[j]? with
    | none => rw [e] at h; cases h
    | some y => rw [e] at h; cases h; exact ⟨_, rfl, rfl, rfl, rfl, .inr ⟨hj, rfl⟩⟩
theorem raise_ids (l : List Kd) (i v : Int) : ((raise l i v).map fun k => k.id) = l.map fun k => k.id := by
  unfold raise
  apply List.ext_getElem?
  intro j
  rw [List.getElem?_map, List.getElem?_map, List.getElem?_modify]
  split
  · cases l[j]? <;> rfl
  · simp
theorem pair_ids {l : List Kd} : l.Pairwise (fun x y => x.id ≠ y.id) ↔ (l.map fun k => k.id).Pairwise (· ≠ ·) := by rw [List.pairwise_map]
theorem chk_raise {kerf : Int} {l : List Kd} {k : Nat} {v : Int} (hc : chk kerf l = 0) (hv : 0 ≤ v ∧ v ≤ 1000000) : chk kerf (raise l k v) = 0 := by
  obtain ⟨q1, q2, q3, q4⟩ := chk_iff.1 hc
  refine chk_iff.2 ⟨by rw [raise_len]; exact q1, q2, fun x hx => ?_, ?_⟩
  · obtain ⟨j, hj⟩ := List.mem_iff_getElem?.1 hx
    obtain ⟨y, hy, e1, e2, e3, e4⟩ := raise_get hj
    have hr := q3 y (List.mem_of_getElem? hy)
    unfold Right at hr ⊢
    rw [e1, e2, e3]
    refine ⟨hr.1, hr.2.1, hr.2.2.1, ?_⟩
    rcases e4 with e | e
    · rw [e.2]; exact hv
    · rw [e.2]; exact hr.2.2.2
  · rw [pair_ids, raise_ids, ← pair_ids]; exact q4
theorem raise_bd {kerf : Int} {l : List Kd} {k : Nat} {v : Int} (hk : k < l.length) (hc : chk kerf (raise l k v) = 0) : 0 ≤ v ∧ v ≤ 1000000 := by
  have h := wsOf_bd hc
  rw [raise_ws] at h
  exact h v (List.mem_set (by simpa [wsOf] using hk) _)
theorem kw_lt {kerf : Int} {l : List Kd} (hc : chk kerf l = 0) {w ht : Int} (hb : OnB w ht) {k : Nat} (hk : k < l.length) : (k : Int) ∈ idleL kerf l w ht ↔ kw kerf l k (w, ht) 0 < kb kerf l k (w, ht) 0 := by
  unfold idleL
  rw [if_pos (asked_ok hc hb)]
  exact idles_mem hk
theorem raise_idle {kerf : Int} {l : List Kd} {k : Nat} (hk : k < l.length) {d : Int} (hc : chk kerf (raise l k ((wsOf l).getD k 0 + d)) = 0) {w ht : Int} (hb : OnB w ht) : (k : Int) ∈ idleL kerf (raise l k ((wsOf l).getD k 0 + d)) w ht ↔ kw kerf l k (w, ht) d < kb kerf l k (w, ht) d := by
  rw [kw_lt hc hb (by rw [raise_len]; exact hk), (kw_raise hk d _).1, (kw_raise hk d _).2]
end Go.A.Pk
end
section
set_option maxRecDepth 100000
namespace Go.A.Pk
variable {T : Nat → Option AFunc}
structure FnsX (T : Nat → Option AFunc) : Prop extends FnsU T, FnsH T where
  f58 : T 58 = some f58
  f12 : T 12 = some f12
  c19 : ∀ {h : Heap}, Rdy h → Pu T 19 [] h (.bool true)
theorem withR_no {kerf : Int} {l : List Kd} {w ht kind : Int} (h : ¬ askK kerf l w ht kind = 0) : withR kerf l w ht kind = .tuple #[.int .i64 0, .bool false, .int .i64 (askK kerf l w ht kind)] := by
  unfold withR withN withIs
  rw [decide_eq_false h, Bool.false_and]; rfl
theorem dearR_no {kerf : Int} {l : List Kd} {w ht kind : Int} (h : ¬ askK kerf l w ht kind = 0) : dearR kerf l w ht kind = .tuple #[.int .i64 0, .bool false, .int .i64 (askK kerf l w ht kind)] := by
  unfold dearR dearN withIs
  rw [decide_eq_false h, Bool.false_and]; rfl
theorem withR_neg {kerf : Int} {l : List Kd} {w ht : Int} {k : Nat} (h : askK kerf l w ht k = 0) (hn : kw kerf l k (w, ht) 0 < 0) : withR kerf l w ht k = .tuple #[.int .i64 0, .bool false, .int .i64 0] := by
  unfold withR withN withIs
  rw [h, Int.toNat_natCast, decide_eq_false (show ¬ 0 ≤ kw kerf l k (w, ht) 0 by omega), Bool.and_false]; rfl
theorem dearR_neg {kerf : Int} {l : List Kd} {w ht : Int} {k : Nat} (h : askK kerf l w ht k = 0) (hn : kw kerf l k (w, ht) 0 < 0) : dearR kerf l w ht k = .tuple #[.int .i64 0, .bool false, .int .i64 0] := by
  unfold dearR dearN withIs
  rw [h, Int.toNat_natCast, decide_eq_false (show ¬ 0 ≤ kw kerf l k (w, ht) 0 by omega), Bool.and_false]; rfl
theorem withR_ok {kerf : Int} {l : List Kd} {w ht : Int} {k : Nat} (h : askK kerf l w ht k = 0) (hn : 0 ≤ kw kerf l k (w, ht) 0) : withR kerf l w ht k = .tuple #[.int .i64 (kw kerf l k (w, ht) 0), .bool true, .int .i64 0] := by
  unfold withR withN withIs
  rw [h, Int.toNat_natCast, decide_eq_true hn]; rfl
theorem dearR_ok {kerf : Int} {l : List Kd} {w ht : Int} {k : Nat} (h : askK kerf l w ht k = 0) (hn : 0 ≤ kw kerf l k (w, ht) 0) : dearR kerf l w ht k = .tuple #[.int .i64 (dearV kerf l k (w, ht)), .bool true, .int .i64 0] := by
  unfold dearR dearN withIs
  rw [h, Int.toNat_natCast, decide_eq_true hn]; rfl
def tail12 : ACode := cR (cR (cR (cR (cR (cR (cR (cR (cR (cR (cR (codeOf f12)))))))))))
set_option maxHeartbeats 8000000 in
theorem dear_tail (F : FnsX T) {base p4 : Nat} {H : Heap} (hw : WF H) (hlog : H.log = []) (hp4 : p4 < H.next) (hbase : base ≤ H.next) {a : Option Addr} {c k : Nat} {l : List Kd} {kerf w ht D : Int} (g4 : H.get p4 = some (.cells [.slice a l.length c, .int .i64 kerf] true 1)) (hs : SliceOf H 5 (.slice a l.length c) l.length (kcs l)) (hn : l.length < 1000000) (hc : chk kerf l = 0) (hb : OnB w ht) (hk : k < l.length)
    (d0 : 0 ≤ D) (d1 : D ≤ 256000000) (d3 : kw kerf l k (w, ht) D = kb kerf l k (w, ht) D) (d4 : D ≠ 0 → kw kerf l k (w, ht) (D - 1) < kb kerf l k (w, ht) (D - 1)) :
    WE T base none tail12 (endP [(8, none)] (.bool true)) [(1, .int .i64 w), (2, .int .i64 ht), (3, .int .i64 k), (4, .pointer (some ⟨p4, 0, none⟩)), (14, .int .i64 D), (131, .bool false)] [] H := by
  have hp := F.toFnsT.toFnsV.p
  have hxk : l[k]? = some l[k] := List.getElem?_eq_getElem hk
  have hwk : (wsOf l).getD k 0 = l[k].worth := by simp [wsOf, List.getD, hk]
  have hwb := wsOf_bd hc l[k].worth (List.mem_map.2 ⟨_, List.getElem_mem hk, rfl⟩)
  generalize l[k] = x at *
  have hik : asked kerf l (0 ≤ (k : Int) ∧ (k : Int) < (l.length : Int)) = 0 := asked_ok hc (by omega)
  rcases hs.inv with ⟨_, _, h0, _⟩ | ⟨b, o, cap, hv, sl, hcap⟩
  · omega
  cases hv
  obtain ⟨vs, own, t, g3, g5⟩ := slice_elem sl hxk
  have e3 : lget vs (o + k * 5 + 3) = some (.int .i64 x.worth) := elem_get g5 3 (by omega)
  have kb2 := WF.get_lt hw g3
  unfold tail12
  simp only [cR, codeOf, f12]
  refine wE_seq ?_; refine wE_draw ?_; refine qN ?_; refine qM ?_; refine qF ?_
  refine qL ?_; refine qM ?_; refine wD_quiet rfl rfl rfl (by exact rfl) (by exact rfl) (by exact rfl) (a_iaddrS (by exact rfl) (by exact rfl) (by omega)) ?_
  refine qF ?_; refine wD_quiet rfl rfl rfl (by exact rfl) (by exact rfl) (by exact rfl) (a_load (by exact rfl) (by assumption) (by assumption)) ?_; refine qM ?_
  refine wD_quiet rfl rfl rfl (by exact rfl) (by exact rfl) (by exact rfl) (a_num (by exact rfl) (by exact rfl) (by exact m_add (wrapA_i64 (by omega) (by omega)))) ?_
  refine wD_new rfl rfl rfl (by exact rfl) (by exact rfl) (by exact rfl) a_new (by refine rs_cons (rq_quiet rfl (a_num (by exact rfl) (by exact rfl) (by exact m_add (wrapA_i64 (by omega) (by omega)))) (by exact sv_int _ _)) ?_; refine rs_cons (rq_quiet rfl (a_mov (by exact rfl)) (by exact sv_int _ _)) ?_; refine rs_cons (rq_quiet rfl (a_load (by exact rfl) (by (simp (disch := first | omega | (simp only [z1, z2]; omega)) only [z3, z4, z5, z6, z7, z1, z2, *]; exact rfl)) (by assumption)) (by exact sv_int _ _)) ?_; refine rs_cons (rq_quiet rfl (a_faddr (by exact rfl)) (by exact sv_ptr _)) ?_; refine rs_cons (rq_quiet rfl (a_iaddrS (by exact rfl) (by exact rfl) (by omega)) (by exact sv_ptr _)) ?_; refine rs_cons (rq_quiet rfl (a_mov (by exact rfl)) (by exact sv_int _ _)) ?_; refine rs_cons (rq_quiet rfl (a_load (by exact rfl) (by (simp (disch := first | omega | (simp only [z1, z2]; omega)) only [z3, z4, z5, z6, z7, z1, z2, *]; exact rfl)) (by exact rfl)) (by exact sv_slice _ _ _)) ?_; refine rs_cons (rq_quiet rfl (a_faddr (by exact rfl)) (by exact sv_ptr _)) ?_; refine rs_cons (rq_quiet rfl (a_mov (by exact rfl)) (by exact sv_int _ _)) ?_; refine rs_cons (rq_quiet rfl (a_loadN (by exact rfl) (by (simp (disch := first | omega | (simp only [z1, z2]; omega)) only [z3, z4, z5, z6, z7, z1, z2, *]; exact rfl)) (by exact rfl) (by exact rfl)) (by exact sv_agg (by refine sl_cons (s1_slice _ _ _) ?_; refine sl_cons (s1_int _ _) ?_; exact sl_nil))) ?_; exact rs_nil) ?_
  refine qC ?_
  have hy := (Ext.refl H).push (.cells [.slice none 0 0, .int .i64 0] true 1)
  refine FW.alD (al_mono (raised59 F.toFnsH (.of (hy.wf hw)) ((hs.ext hy).log []) kerf hn k (x.worth + D)) fun v h' q => orErr_change q) (fun v h' m q => SawQ.log v h' m q) ?_
  rintro _ h2 hx2 ⟨s2, rfl, q2⟩
  obtain ⟨a2, c2, rfl⟩ := q2.form
  have kN : H.next < h2.next := hx2.next
  have G3 : h2.get b = some (.cells vs own t) := by rw [hx2.old _ (by (simp only [z1, z2]; omega))]; (simp (disch := first | omega | (simp only [z1, z2]; omega)) only [z3, z4, z5, z6, z7, z1, z2, *]; done)
  have G4 : h2.get p4 = some (.cells [.slice (some ⟨b, o, none⟩) l.length c, .int .i64 kerf] true 1) := by rw [hx2.old _ (by (simp only [z1, z2]; omega))]; (simp (disch := first | omega | (simp only [z1, z2]; omega)) only [z3, z4, z5, z6, z7, z1, z2, *]; done)
  have G5 : h2.get H.next = some (.cells [.slice none 0 0, .int .i64 0] true 1) := by rw [hx2.old _ (by (simp only [z1, z2]; omega))]; (simp (disch := first | omega | (simp only [z1, z2]; omega)) only [z3, z4, z5, z6, z7, z1, z2, *]; done)
  have hx12 := hy.trans hx2
  by_cases hj : chk kerf (raise l k (x.worth + D)) = 0
  · simp only [hik, hj, ↓reduceIte] at q2 ⊢
    rw [raise_len] at q2 ⊢
    refine ⟨_, by apply ra_keepC rfl (rq_made rfl) (by rfl); apply ra_dropC rfl; apply ra_dropC rfl; apply ra_dropC rfl; apply ra_dropC rfl; apply ra_dropC rfl; apply ra_dropC rfl; apply ra_dropC rfl; apply ra_dropC rfl; apply ra_dropC rfl; apply ra_dropC rfl; exact ra_nil, ?_⟩
    have hxB : Ext H (h2.wr base H.next (.cells (lputs [.slice none 0 0, .int .i64 0] 0 (cellsOf (.agg #[.slice a2 l.length c2, .int .i64 kerf]))) true 1)) := hx12.wr (Nat.le_refl _) hbase
    by_cases hD : D = 0
    · refine qM ?_; refine qE ?_; refine qE ?_
      refine wD_store rfl rfl rfl (by exact rfl) (by exact rfl) (by exact rfl) (by assumption) (by exact rfl) (by exact rfl) (by omega) (by omega) (by apply ra_keepC rfl (rq_quiet rfl (a_extract (by exact rfl) (by exact rfl)) (by exact sv_int _ _)) rfl; apply ra_dropC rfl; apply ra_dropC rfl; apply ra_dropC rfl; exact ra_nil) ?_
      refine qM ?_; refine wD_nil ?_; refine y1 ?_; refine kS_n ?_; refine wE_seq ?_; refine y4 ?_; refine yM ?_
      refine yt ?_; refine yM ?_; refine yP ?_; refine yP ?_; refine yT ?_; refine y3 ?_; refine yY ?_; refine y4 ?_
      refine yC ?_
      refine FW.pu (F.c19 (.of (hxB.wf hw))) ?_
      refine yM ?_; refine y3 ?_; refine wE_ret ?_; refine kS_r ?_
      exact endP_ret (hxB.log.trans hlog) rfl rfl
    · refine qM ?_; refine qE ?_; refine qE ?_
      refine wD_store rfl rfl rfl (by exact rfl) (by exact rfl) (by exact rfl) (by assumption) (by exact rfl) (by exact rfl) (by omega) (by omega) (by apply ra_keepC rfl (rq_quiet rfl (a_extract (by exact rfl) (by exact rfl)) (by exact sv_int _ _)) rfl; apply ra_dropC rfl; apply ra_dropC rfl; apply ra_dropC rfl; exact ra_nil) ?_
      refine qM ?_; refine wD_nil ?_; refine y1 ?_; refine kS_n ?_; refine wE_seq ?_; refine y4 ?_; refine yM ?_
      refine yf ?_; refine yM ?_; refine yO ?_; refine yM ?_; refine yO ?_; refine yf ?_; refine yU ?_; refine y3 ?_; refine yX ?_; refine wE_skip ?_; refine kS_n ?_; refine y4 ?_
      refine yN ?_; refine yM ?_; refine yM ?_
      refine WO.gen ?_
      intro hA hAe
      have hxA : Ext H hA := by rw [hAe]; exact hxB
      have A5 : hA.get H.next = some (.cells [.slice a2 l.length c2, .int .i64 kerf] true 1) := by rw [hAe]; exact Heap.get_wr_new G5
      have hNA : h2.next = hA.next := by rw [hAe]; rfl
      have qA : SliceOf hA 5 (.slice a2 l.length c2) l.length (kcs (raise l k (x.worth + D))) := by rw [hAe]; exact q2.small G5 (by show 2 < l.length * 5; omega)
      clear hAe hxB hx12 hx2 G3 G4 G5 q2
      have hd4 := d4 hD
      have hwA := hxA.wf hw
      have hlA := hxA.log.trans hlog
      have gA := (hxA.old p4 hp4).trans g4
      have hsA := hs.ext hxA
      have gv := (hxA.old b kb2).trans g3
      have kA : H.next < hA.next := by omega
      have C5 := idle44 F.toFnsU (.of hwA) (qA.log []) kerf hn w ht
      rw [asked_ok hj hb] at C5
      refine yC ?_
      refine FW.al C5 (fun v h' m q => IntsQ.log v h' m q) ?_
      rintro _ h3 hx3 ⟨a3, c3, rfl, q3⟩
      have I1 := raise_idle hk (d := D) (by rw [hwk]; exact hj) hb
      rw [hwk] at I1
      have kb3 : b < hA.next := by omega
      have kp3 : p4 < hA.next := by omega
      have gB := (hx3.old _ kp3).trans gA
      have gw := (hx3.old _ kb3).trans gv
      have hlB := hx3.log.trans hlA
      have hwB := hx3.wf hwA
      have hsB := hsA.ext hx3
      have kN3 := hx3.next
      generalize hI : idleL kerf (raise l k (x.worth + D)) w ht = L1 at *
      clear C5 qA hxA hsA gA gv hlA hwA A5 hNA
      refine yM ?_; refine yE ?_; refine yE ?_; refine yM ?_; refine yM ?_; refine y3 ?_; refine wE_seq ?_
      refine wE_draw ?_; refine qN ?_; refine qM ?_; refine qF ?_
      refine qL ?_; refine qM ?_; refine wD_quiet rfl rfl rfl (by exact rfl) (by exact rfl) (by exact rfl) (a_iaddrS (by exact rfl) (by exact rfl) (by omega)) ?_
      refine qF ?_; refine wD_quiet rfl rfl rfl (by exact rfl) (by exact rfl) (by exact rfl) (a_load (by exact rfl) (by assumption) (by assumption)) ?_; refine qM ?_
      refine wD_quiet rfl rfl rfl (by exact rfl) (by exact rfl) (by exact rfl) (a_num (by exact rfl) (by exact rfl) (by exact m_add (wrapA_i64 (by omega) (by omega)))) ?_; refine wD_quiet rfl rfl rfl (by exact rfl) (by exact rfl) (by exact rfl) (a_num (by exact rfl) (by exact rfl) (by exact m_sub (wrapA_i64 (by omega) (by omega)))) ?_
      refine wD_new rfl rfl rfl (by exact rfl) (by exact rfl) (by exact rfl) a_new (by refine rs_cons (rq_quiet rfl (a_num (by exact rfl) (by exact rfl) (by exact m_sub (wrapA_i64 (by omega) (by omega)))) (by exact sv_int _ _)) ?_; refine rs_cons (rq_quiet rfl (a_num (by exact rfl) (by exact rfl) (by exact m_add (wrapA_i64 (by omega) (by omega)))) (by exact sv_int _ _)) ?_; refine rs_cons (rq_quiet rfl (a_mov (by exact rfl)) (by exact sv_int _ _)) ?_; refine rs_cons (rq_quiet rfl (a_load (by exact rfl) (by (simp (disch := first | omega | (simp only [z1, z2]; omega)) only [z3, z4, z5, z6, z7, z1, z2, *]; exact rfl)) (by assumption)) (by exact sv_int _ _)) ?_; refine rs_cons (rq_quiet rfl (a_faddr (by exact rfl)) (by exact sv_ptr _)) ?_; refine rs_cons (rq_quiet rfl (a_iaddrS (by exact rfl) (by exact rfl) (by omega)) (by exact sv_ptr _)) ?_; refine rs_cons (rq_quiet rfl (a_mov (by exact rfl)) (by exact sv_int _ _)) ?_; refine rs_cons (rq_quiet rfl (a_load (by exact rfl) (by (simp (disch := first | omega | (simp only [z1, z2]; omega)) only [z3, z4, z5, z6, z7, z1, z2, *]; exact rfl)) (by exact rfl)) (by exact sv_slice _ _ _)) ?_; refine rs_cons (rq_quiet rfl (a_faddr (by exact rfl)) (by exact sv_ptr _)) ?_; refine rs_cons (rq_quiet rfl (a_mov (by exact rfl)) (by exact sv_int _ _)) ?_; refine rs_cons (rq_quiet rfl (a_loadN (by exact rfl) (by (simp (disch := first | omega | (simp only [z1, z2]; omega)) only [z3, z4, z5, z6, z7, z1, z2, *]; exact rfl)) (by exact rfl) (by exact rfl)) (by exact sv_agg (by refine sl_cons (s1_slice _ _ _) ?_; refine sl_cons (s1_int _ _) ?_; exact sl_nil))) ?_; exact rs_nil) ?_
      refine qC ?_
      have hz := (Ext.refl h3).push (.cells [.slice none 0 0, .int .i64 0] true 1)
      refine FW.alD (al_mono (raised59 F.toFnsH (.of (hz.wf hwB)) ((hsB.ext hz).log []) kerf hn k (x.worth + D - 1)) fun v h' q => orErr_change q) (fun v h' m q => SawQ.log v h' m q) ?_
      rintro _ h4 hx4 ⟨s4, rfl, q4⟩
      have hj2 : chk kerf (raise l k (x.worth + D - 1)) = 0 := chk_raise hc (by have := raise_bd hk hj; omega)
      simp only [hik, hj2, ↓reduceIte] at q4 ⊢
      rw [raise_len] at q4
      obtain ⟨a4, c4, rfl⟩ := q4.form
      have G3 : h4.get b = some (.cells vs own t) := by rw [hx4.old _ (by (simp only [z1, z2]; omega))]; (simp (disch := first | omega | (simp only [z1, z2]; omega)) only [z3, z4, z5, z6, z7, z1, z2, *]; done)
      have G4 : h4.get p4 = some (.cells [.slice (some ⟨b, o, none⟩) l.length c, .int .i64 kerf] true 1) := by rw [hx4.old _ (by (simp only [z1, z2]; omega))]; (simp (disch := first | omega | (simp only [z1, z2]; omega)) only [z3, z4, z5, z6, z7, z1, z2, *]; done)
      have G5 : h4.get h3.next = some (.cells [.slice none 0 0, .int .i64 0] true 1) := by rw [hx4.old _ (by (simp only [z1, z2]; omega))]; (simp (disch := first | omega | (simp only [z1, z2]; omega)) only [z3, z4, z5, z6, z7, z1, z2, *]; done)
      have hx34 := hz.trans hx4
      have kN4 : h3.next < h4.next := hx4.next
      refine ⟨_, by apply ra_keepC rfl (rq_made rfl) (by rfl); apply ra_dropC rfl; apply ra_dropC rfl; apply ra_dropC rfl; apply ra_dropC rfl; apply ra_dropC rfl; apply ra_dropC rfl; apply ra_dropC rfl; apply ra_dropC rfl; apply ra_dropC rfl; apply ra_dropC rfl; apply ra_dropC rfl; exact ra_nil, ?_⟩
      refine qM ?_; refine qE ?_; refine qE ?_
      refine wD_store rfl rfl rfl (by exact rfl) (by exact rfl) (by exact rfl) (by assumption) (by exact rfl) (by exact rfl) (by omega) (by omega) (by apply ra_keepC rfl (rq_quiet rfl (a_extract (by exact rfl) (by exact rfl)) (by exact sv_int _ _)) rfl; apply ra_dropC rfl; apply ra_dropC rfl; apply ra_dropC rfl; exact ra_nil) ?_
      refine qM ?_; refine wD_nil ?_; refine y1 ?_; refine kS_n ?_; refine y4 ?_
      refine yN ?_; refine yM ?_; refine yM ?_
      refine WO.gen ?_
      intro hB hBe
      have hxB : Ext h3 hB := by rw [hBe]; exact hx34.wr (Nat.le_refl _) (by omega)
      have B5 : hB.get h3.next = some (.cells [.slice a4 l.length c4, .int .i64 kerf] true 1) := by rw [hBe]; exact Heap.get_wr_new G5
      have qB : SliceOf hB 5 (.slice a4 l.length c4) l.length (kcs (raise l k (x.worth + D - 1))) := by rw [hBe]; exact q4.small G5 (by show 2 < l.length * 5; omega)
      clear hBe hx34 hx4 G3 G4 G5 q4 hz
      have C6 := idle44 F.toFnsU (.of (hxB.wf hwB)) (qB.log []) kerf hn w ht
      rw [asked_ok hj2 hb] at C6
      refine yC ?_
      refine FW.al C6 (fun v h' m q => IntsQ.log v h' m q) ?_
      rintro _ h5 hx5 ⟨a5, c5, rfl, q5⟩
      have I2 := raise_idle hk (d := D - 1) (by rw [hwk, show x.worth + (D - 1) = x.worth + D - 1 by omega]; exact hj2) hb
      rw [hwk, show x.worth + (D - 1) = x.worth + D - 1 by omega] at I2
      have hx35 := hxB.trans hx5
      have q3' := q3.ext hx35
      have hw5 := hx35.wf hwB
      have hl5 := hx35.log.trans hlB
      have hil : ∀ m : List Kd, m.length = l.length → (idleL kerf m w ht).length < 1000000 := fun m hm => by
        have := idles_len kerf m w ht m.length
        unfold idleL; split
        · omega
        · show 0 < 1000000; omega
      have C7 := has58 hp F.f58 (.of hw5) (q3'.log []) (by rw [← hI]; exact hil _ (raise_len ..)) k
      have C8 := has58 hp F.f58 (.of hw5) (q5.log []) (hil _ (raise_len ..)) k
      rw [decide_eq_false (fun q => by have := I1.1 q; omega)] at C7
      rw [decide_eq_true (I2.2 hd4)] at C8
      refine yM ?_; refine yE ?_; refine yE ?_; refine yM ?_; refine yM ?_; refine y3 ?_; refine y4 ?_
      refine yC ?_
      refine FW.pu (F.c19 (.of hw5)) ?_
      refine yM ?_; refine yO ?_; refine yM ?_; refine yO ?_; refine yt ?_; refine yT ?_; refine yM ?_; refine yO ?_; refine yM ?_
      refine yO ?_; refine yt ?_; refine yT ?_; refine yM ?_; refine yO ?_; refine yM ?_; refine yO ?_
      refine yt ?_; refine yT ?_; refine yM ?_; refine yO ?_; refine yM ?_; refine yO ?_; refine yM ?_; refine yO ?_
      refine yC ?_
      refine FW.pu C7 ?_
      refine yO ?_; refine yA ?_; refine yT ?_; refine yM ?_; refine yO ?_; refine yM ?_; refine yO ?_; refine yM ?_; refine yO ?_
      refine yC ?_
      refine FW.pu C8 ?_
      refine yT ?_; refine yM ?_; refine y3 ?_; refine wE_ret ?_
      exact endP_ret hl5 rfl rfl
  · simp only [hik, hj, ↓reduceIte] at q2 ⊢
    refine ⟨_, by apply ra_keepC rfl (rq_made rfl) (by rfl); apply ra_dropC rfl; apply ra_dropC rfl; apply ra_dropC rfl; apply ra_dropC rfl; apply ra_dropC rfl; apply ra_dropC rfl; apply ra_dropC rfl; apply ra_dropC rfl; apply ra_dropC rfl; apply ra_dropC rfl; exact ra_nil, ?_⟩
    have hxB : Ext H (h2.wr base H.next (.cells (lputs [.slice none 0 0, .int .i64 0] 0 (cellsOf (.agg #[.slice a2 (List.length ([] : List Kd)) c2, .int .i64 0]))) true 1)) := hx12.wr (Nat.le_refl _) hbase
    by_cases hD : D = 0
    · refine qM ?_; refine qE ?_; refine qE ?_
      refine wD_store rfl rfl rfl (by exact rfl) (by exact rfl) (by exact rfl) (by assumption) (by exact rfl) (by exact rfl) (by omega) (by omega) (by apply ra_keepC rfl (rq_quiet rfl (a_extract (by exact rfl) (by exact rfl)) (by exact sv_int _ _)) rfl; apply ra_dropC rfl; apply ra_dropC rfl; apply ra_dropC rfl; exact ra_nil) ?_
      refine qM ?_; refine wD_nil ?_; refine y1 ?_; refine kS_n ?_; refine wE_seq ?_; refine y4 ?_; refine yM ?_
      refine yt ?_; refine yM ?_; refine yP ?_; refine yP ?_; refine yT ?_; refine y3 ?_; refine yY ?_; refine y4 ?_
      refine yC ?_
      refine FW.pu (F.c19 (.of (hxB.wf hw))) ?_
      refine yM ?_; refine y3 ?_; refine wE_ret ?_; refine kS_r ?_
      exact endP_ret (hxB.log.trans hlog) rfl rfl
    · refine qM ?_; refine qE ?_; refine qE ?_
      refine wD_store rfl rfl rfl (by exact rfl) (by exact rfl) (by exact rfl) (by assumption) (by exact rfl) (by exact rfl) (by omega) (by omega) (by apply ra_keepC rfl (rq_quiet rfl (a_extract (by exact rfl) (by exact rfl)) (by exact sv_int _ _)) rfl; apply ra_dropC rfl; apply ra_dropC rfl; apply ra_dropC rfl; exact ra_nil) ?_
      refine qM ?_; refine wD_nil ?_; refine y1 ?_; refine kS_n ?_; refine wE_seq ?_; refine y4 ?_; refine yM ?_
      refine yf ?_; refine yM ?_; refine yO ?_; refine yM ?_; refine yO ?_; refine yt ?_; refine yU ?_; refine y3 ?_; refine yY ?_; refine y4 ?_
      refine yC ?_
      refine FW.pu (F.c19 (.of (hxB.wf hw))) ?_
      refine yM ?_; refine y3 ?_; refine wE_ret ?_; refine kS_r ?_
      exact endP_ret (hxB.log.trans hlog) rfl rfl
end Go.A.Pk
end
section
set_option maxRecDepth 100000
namespace Go.A.Pk
variable {T : Nat → Option AFunc}
set_option maxHeartbeats 8000000 in
theorem law12 (F : FnsX T) {h : Heap} (hr : Rdy h) {a : Option Addr} {n c : Nat} {l : List Kd} (hs : SliceOf h 5 (.slice a n c) n (kcs l)) (kerf w ht kind : Int) :
    Pu T 12 [.agg #[.slice a n c, .int .i64 kerf], .int .i64 w, .int .i64 ht, .int .i64 kind] h (.bool true) := by
  have hp := F.toFnsT.toFnsV.p
  refine .of hp F.f12 hr rfl ?_
  have hx : Ext h (h.push (.cells [.slice a n c, .int .i64 kerf] true 1)) := (Ext.refl h).push _
  obtain rfl : n = l.length := by have := hs.len; rw [kcs_length] at this; omega
  refine y4 ?_; refine yB ?_; refine yM ?_; refine y3 ?_; refine wE_seq ?_; refine y4 ?_
  refine yN ?_
  refine yC ?_
  refine FW.pu (few18 F.toFnsE.toFnsC (.of (hx.wf hr.wf)) kerf) ?_
  by_cases hfew : l.length ≤ 16
  · have hn : l.length < 1000000 := by omega
    rw [decide_eq_true hfew]
    refine yA ?_; refine y3 ?_; refine yX ?_; refine wE_skip ?_; refine kS_n ?_; refine y4 ?_
    refine yN ?_; refine yM ?_; refine yM ?_
    refine yC ?_
    have C1 := best32 F.toFnsW (.of (hx.wf hr.wf)) ((hs.ext hx).log []) kerf hn w ht
    have C2 := with40 F.toFnsU (.of (hx.wf hr.wf)) ((hs.ext hx).log []) kerf hn w ht kind
    have C3 := dearer42 F.toFnsU (.of (hx.wf hr.wf)) ((hs.ext hx).log []) kerf hn w ht kind
    by_cases hK : askK kerf l w ht kind = 0
    · obtain ⟨hc, hb, k, rfl, hk⟩ := askK_zero hK
      have hA := asked_ok hc hb
      rw [bestR_ok hA] at C1
      have hl := dear_law (p := (w, ht)) (chk_iff.1 hc).2.1.1 (fun x hx => (wsOf_bd hc x hx).1) hk (by have := kb_bd hc hk hb; unfold never; omega)
      rw [← kb_zero hc hk hb] at C1
      have hkb := kb_bd hc hk hb
      have hmem := kw_lt hc hb hk
      by_cases hneg : kw kerf l k (w, ht) 0 < 0
      · rw [withR_neg hK hneg] at C2
        rw [dearR_neg hK hneg] at C3
        refine FW.pu C1 ?_
        refine yM ?_; refine yE ?_; refine yE ?_; refine yM ?_; refine yM ?_; refine y3 ?_; refine y4 ?_; refine yN ?_; refine yM ?_
        refine yM ?_; refine yM ?_
        refine yC ?_
        refine FW.pu C2 ?_
        refine yM ?_; refine yE ?_; refine yE ?_; refine yE ?_; refine yM ?_; refine yM ?_; refine yM ?_; refine y3 ?_; refine y4 ?_
        refine yN ?_; refine yM ?_; refine yM ?_
        refine yM ?_
        refine yC ?_
        refine FW.pu C3 ?_
        refine yM ?_; refine yE ?_; refine yE ?_; refine yE ?_; refine yM ?_; refine yM ?_; refine yM ?_; refine y3 ?_; refine wE_seq ?_; refine y4 ?_; refine yM ?_; refine yf ?_; refine yM ?_; refine yO ?_
        refine yM ?_; refine yO ?_; refine yf ?_; refine yU ?_; refine y3 ?_; refine yX ?_
        refine wE_skip ?_; refine kS_n ?_; refine y4 ?_; refine yN ?_
        refine yM ?_; refine yM ?_
        refine yC ?_
        refine FW.al (idle44 F.toFnsU (.of (hx.wf hr.wf)) ((hs.ext hx).log []) kerf hn w ht) (fun v h' m q => IntsQ.log v h' m q) ?_
        rintro _ h2 hx2 ⟨a2, c2, rfl, q2⟩
        rw [hA]
        have hil := idles_len kerf l w ht l.length
        have hx12 := hx.trans hx2
        have hl2 : h2.log = [] := hx12.log.trans hr.log
        have w2 := hx12.wf hr.wf
        have hid : (idleL kerf l w ht).length < 1000000 := by unfold idleL; rw [if_pos hA]; omega
        have C4 := has58 hp F.f58 (.of w2) (q2.log []) hid k
        rw [decide_eq_true (hmem.2 (by omega))] at C4
        refine yM ?_; refine yE ?_; refine yE ?_; refine yM ?_; refine yM ?_; refine y3 ?_; refine wE_seq ?_
        refine y4 ?_; refine yM ?_; refine yf ?_; refine yM ?_; refine yO ?_; refine yM ?_; refine yO ?_; refine yf ?_
        refine yU ?_; refine yM ?_; refine yO ?_; refine yM ?_; refine yO ?_; refine yM ?_; refine yO ?_; refine wO_val (a_beq (by exact rfl) (by exact rfl)) ?_; refine yU ?_
        refine y3 ?_; refine yX ?_; refine wE_skip ?_; refine kS_n ?_; refine y4 ?_; refine yM ?_; refine yM ?_
        refine yC ?_
        refine FW.pu C4 ?_
        refine yM ?_; refine y3 ?_; refine wE_seq ?_; refine y4 ?_; refine yM ?_; refine yA ?_; refine y3 ?_; refine yY ?_; refine y4 ?_
        refine yC ?_
        refine FW.pu (F.c19 (.of w2)) ?_
        refine yM ?_; refine yO ?_; refine yM ?_; refine yT ?_; refine yM ?_; refine yO ?_; refine yM ?_; refine yO ?_; refine yt ?_
        refine yT ?_; refine yM ?_; refine yO ?_; refine yM ?_; refine yO ?_; refine yt ?_; refine yT ?_; refine yM ?_
        refine y3 ?_; refine wE_ret ?_; refine kS_r ?_
        exact endP_ret hl2 rfl rfl
      · have hpos : 0 ≤ kw kerf l k (w, ht) 0 := by omega
        obtain ⟨hle, hl2⟩ := hl
        obtain ⟨d0, d1, d2, d3, d4⟩ := hl2 hpos
        rw [withR_ok hK hpos] at C2
        rw [dearR_ok hK hpos] at C3
        generalize hD : dearV kerf l k (w, ht) = D at *
        clear hl2
        refine FW.pu C1 ?_
        refine yM ?_; refine yE ?_; refine yE ?_; refine yM ?_; refine yM ?_; refine y3 ?_; refine y4 ?_; refine yN ?_; refine yM ?_
        refine yM ?_; refine yM ?_
        refine yC ?_
        refine FW.pu C2 ?_
        refine yM ?_; refine yE ?_; refine yE ?_; refine yE ?_; refine yM ?_; refine yM ?_; refine yM ?_; refine y3 ?_; refine y4 ?_
        refine yN ?_; refine yM ?_; refine yM ?_
        refine yM ?_
        refine yC ?_
        refine FW.pu C3 ?_
        refine yM ?_; refine yE ?_; refine yE ?_; refine yE ?_; refine yM ?_; refine yM ?_; refine yM ?_; refine y3 ?_; refine wE_seq ?_; refine y4 ?_; refine yM ?_; refine yf ?_; refine yM ?_; refine yO ?_
        refine yM ?_; refine yO ?_; refine yf ?_; refine yU ?_; refine y3 ?_; refine yX ?_
        refine wE_skip ?_; refine kS_n ?_; refine y4 ?_; refine yN ?_
        refine yM ?_; refine yM ?_
        refine yC ?_
        refine FW.al (idle44 F.toFnsU (.of (hx.wf hr.wf)) ((hs.ext hx).log []) kerf hn w ht) (fun v h' m q => IntsQ.log v h' m q) ?_
        rintro _ h2 hx2 ⟨a2, c2, rfl, q2⟩
        rw [hA]
        have hil := idles_len kerf l w ht l.length
        have hx12 := hx.trans hx2
        have k1 : h.next < h2.next := hx2.next
        have g1 : h2.get h.next = some (.cells [.slice a l.length c, .int .i64 kerf] true 1) := by rw [hx2.old _ (by (simp only [z1, z2]; omega))]; (simp (disch := first | omega | (simp only [z1, z2]; omega)) only [z3, z4, z5, z6, z7, z1, z2, *]; exact rfl)
        have hlg : h2.log = [] := hx12.log.trans hr.log
        have w2 := hx12.wf hr.wf
        have hs2 := hs.ext hx12
        have hid : (idleL kerf l w ht).length < 1000000 := by unfold idleL; rw [if_pos hA]; omega
        have C4 := has58 hp F.f58 (.of w2) (q2.log []) hid k
        clear C1 C2 C3 hx2
        have TAIL := dear_tail F (base := h.next) (D := D) w2 hlg k1 (Nat.le_of_lt k1) g1 hs2 hn hc hb hk d0 (by omega) d3 d4
        unfold tail12 at TAIL
        simp only [cR, codeOf, f12] at TAIL
        by_cases heq : kw kerf l k (w, ht) 0 = kb kerf l k (w, ht) 0
        · rw [decide_eq_false (show ¬ ((k : Int) ∈ idleL kerf l w ht) from fun q => by have := hmem.1 q; omega)] at C4
          have hD0 : D = 0 := d2.2 heq
          refine yM ?_; refine yE ?_; refine yE ?_; refine yM ?_; refine yM ?_; refine y3 ?_; refine wE_seq ?_
          refine y4 ?_; refine yM ?_; refine yf ?_; refine yM ?_; refine yO ?_; refine yM ?_; refine yO ?_; refine yf ?_
          refine yU ?_; refine yM ?_; refine yO ?_; refine yM ?_; refine yO ?_; refine yM ?_; refine yO ?_; refine wO_val (a_beq (by exact rfl) (by exact rfl)) ?_; refine yU ?_
          refine y3 ?_; refine yX ?_; refine wE_skip ?_; refine kS_n ?_; refine y4 ?_; refine yM ?_; refine yM ?_
          refine yC ?_
          refine FW.pu C4 ?_
          refine yM ?_; refine y3 ?_; refine wE_seq ?_; refine y4 ?_; refine yM ?_; refine yA ?_; refine y3 ?_; refine yX ?_; refine wE_skip ?_; refine kS_n ?_; refine wE_seq ?_; refine y4 ?_; refine yM ?_; refine yM ?_
          refine yf ?_; refine yM ?_; refine yO ?_; refine yM ?_; refine yO ?_; refine yM ?_; refine yO ?_; refine yt ?_
          refine yO ?_; refine yM ?_; refine yO ?_; refine wO_val (a_beq (by exact rfl) (by exact rfl)) ?_; refine yU ?_; refine yM ?_; refine yO ?_; refine yM ?_; refine yO ?_
          refine yt ?_; refine yO ?_; refine yM ?_; refine yO ?_; refine wO_val (a_beq (by exact rfl) (by exact rfl)) ?_; refine yU ?_; refine yM ?_; refine yO ?_
          refine yM ?_; refine yO ?_; refine yf ?_; refine yU ?_; refine y3 ?_; refine yX ?_
          refine wE_skip ?_; refine kS_n ?_; exact TAIL
        · rw [decide_eq_true (hmem.2 (by omega))] at C4
          have hD0 : D ≠ 0 := fun q => heq (d2.1 q)
          refine yM ?_; refine yE ?_; refine yE ?_; refine yM ?_; refine yM ?_; refine y3 ?_; refine wE_seq ?_
          refine y4 ?_; refine yM ?_; refine yf ?_; refine yM ?_; refine yO ?_; refine yM ?_; refine yO ?_; refine yf ?_
          refine yU ?_; refine yM ?_; refine yO ?_; refine yM ?_; refine yO ?_; refine yM ?_; refine yO ?_; refine wO_val (a_beq (by exact rfl) (by exact rfl)) ?_; refine yU ?_
          refine y3 ?_; refine yX ?_; refine wE_skip ?_; refine kS_n ?_; refine y4 ?_; refine yM ?_; refine yM ?_
          refine yC ?_
          refine FW.pu C4 ?_
          refine yM ?_; refine y3 ?_; refine wE_seq ?_; refine y4 ?_; refine yM ?_; refine yA ?_; refine y3 ?_; refine yX ?_; refine wE_skip ?_; refine kS_n ?_; refine wE_seq ?_; refine y4 ?_; refine yM ?_; refine yM ?_
          refine yf ?_; refine yM ?_; refine yO ?_; refine yM ?_; refine yO ?_; refine yM ?_; refine yO ?_; refine yf ?_
          refine yO ?_; refine yM ?_; refine yO ?_; refine wO_val (a_beq (by exact rfl) (by exact rfl)) ?_; refine yU ?_; refine yM ?_; refine yO ?_; refine yM ?_; refine yO ?_
          refine yf ?_; refine yO ?_; refine yM ?_; refine yO ?_; refine wO_val (a_beq (by exact rfl) (by exact rfl)) ?_; refine yU ?_; refine yM ?_; refine yO ?_
          refine yM ?_; refine yO ?_; refine yf ?_; refine yU ?_; refine y3 ?_; refine yX ?_
          refine wE_skip ?_; refine kS_n ?_; exact TAIL
    · rw [withR_no hK] at C2
      rw [dearR_no hK] at C3
      by_cases hA : asked kerf l (OnB w ht) = 0
      · rw [bestR_ok hA] at C1
        refine FW.pu C1 ?_
        refine yM ?_; refine yE ?_; refine yE ?_; refine yM ?_; refine yM ?_; refine y3 ?_; refine y4 ?_; refine yN ?_; refine yM ?_
        refine yM ?_; refine yM ?_
        refine yC ?_
        refine FW.pu C2 ?_
        refine yM ?_; refine yE ?_; refine yE ?_; refine yE ?_; refine yM ?_; refine yM ?_; refine yM ?_; refine y3 ?_; refine y4 ?_
        refine yN ?_; refine yM ?_; refine yM ?_
        refine yM ?_
        refine yC ?_
        refine FW.pu C3 ?_
        refine yM ?_; refine yE ?_; refine yE ?_; refine yE ?_; refine yM ?_; refine yM ?_; refine yM ?_; refine y3 ?_; refine wE_seq ?_; refine y4 ?_; refine yM ?_; refine yf ?_; refine yM ?_; refine yO ?_
        refine yM ?_; refine yO ?_; refine yt ?_; refine yU ?_; refine y3 ?_; refine yY ?_; refine y4 ?_
        refine yC ?_
        refine FW.pu (F.c19 (.of (hx.wf hr.wf))) ?_
        refine yM ?_; refine yO ?_; refine yM ?_; refine yO ?_; refine yM ?_; refine yO ?_; refine yt ?_; refine yT ?_; refine yM ?_
        refine yO ?_; refine yM ?_; refine yO ?_; refine yA ?_; refine yT ?_; refine yM ?_; refine yO ?_; refine yM ?_; refine yO ?_; refine yA ?_
        refine yT ?_; refine yM ?_; refine y3 ?_; refine wE_ret ?_; refine kS_r ?_
        exact endP_ret (hx.log.trans hr.log) rfl rfl
      · rw [bestR_no hA] at C1
        refine FW.pu C1 ?_
        refine yM ?_; refine yE ?_; refine yE ?_; refine yM ?_; refine yM ?_; refine y3 ?_; refine y4 ?_; refine yN ?_; refine yM ?_
        refine yM ?_; refine yM ?_
        refine yC ?_
        refine FW.pu C2 ?_
        refine yM ?_; refine yE ?_; refine yE ?_; refine yE ?_; refine yM ?_; refine yM ?_; refine yM ?_; refine y3 ?_; refine y4 ?_
        refine yN ?_; refine yM ?_; refine yM ?_
        refine yM ?_
        refine yC ?_
        refine FW.pu C3 ?_
        refine yM ?_; refine yE ?_; refine yE ?_; refine yE ?_; refine yM ?_; refine yM ?_; refine yM ?_; refine y3 ?_; refine wE_seq ?_; refine y4 ?_; refine yM ?_; refine yt ?_; refine yM ?_; refine yP ?_
        refine yP ?_; refine yT ?_; refine y3 ?_; refine yY ?_; refine y4 ?_
        refine yC ?_
        refine FW.pu (F.c19 (.of (hx.wf hr.wf))) ?_
        refine yM ?_; refine yO ?_; refine yM ?_; refine yO ?_; refine yM ?_; refine yO ?_; refine yt ?_; refine yT ?_; refine yM ?_
        refine yO ?_; refine yM ?_; refine yO ?_; refine yA ?_; refine yT ?_; refine yM ?_; refine yO ?_; refine yM ?_; refine yO ?_; refine yA ?_
        refine yT ?_; refine yM ?_; refine y3 ?_; refine wE_ret ?_; refine kS_r ?_
        exact endP_ret (hx.log.trans hr.log) rfl rfl
  · rw [decide_eq_false hfew]
    refine yA ?_; refine y3 ?_; refine yY ?_; refine y4 ?_
    refine yC ?_
    refine FW.pu (F.c19 (.of (hx.wf hr.wf))) ?_
    refine yM ?_; refine y3 ?_; refine wE_ret ?_; refine kS_r ?_
    exact endP_ret (hx.log.trans hr.log) rfl rfl
end Go.A.Pk
end
section
set_option maxRecDepth 100000
open Go Go.A Go.Proofs Go.RowKit
namespace Go.A.Pk
theorem c12 : compF Tryz.prog Tryz.f12 [[1, 2, 3, 4], [1, 2, 3, 4, 30], [8], [1, 2, 3, 4, 9, 10], [1, 2, 3, 4, 9, 10, 11, 12, 13], [1, 2, 3, 4, 9, 10, 11, 12, 13, 14, 15, 16], [1, 2, 3, 4, 9, 11, 12, 13, 14, 15, 16, 62], [8], [1, 2, 3, 4, 9, 11, 12, 14, 15, 16, 17, 18], [1, 2, 3, 4, 9, 11, 12, 14, 17, 94], [8], [1, 2, 3, 4, 9, 11, 12, 14, 19], [1, 2, 3, 4, 9, 11, 14, 19, 99], [8], [1, 2, 3, 4, 14, 131], [8], [1, 2, 3, 4, 14, 20, 21], [1, 2, 3, 4, 14, 20, 151], [8], [1, 2, 3, 4, 14, 22, 23], [1, 2, 3, 22, 23, 24, 25], [3, 22, 23, 25, 26, 27], [8]] = some f12 := by kernel_rfl
theorem c58 : compF Tryz.prog Tryz.f58 [[0, 1], [0, 1, 5], [0, 1, 5, 9], [0, 1, 5, 17], [4], [0, 1, 5], [4]] = some f58 := by kernel_rfl
theorem c40 : compF Tryz.prog Tryz.f40 [[1, 2, 3, 4], [1, 2, 3, 11, 12], [1, 2, 3, 11, 12, 28], [8, 9, 10], [13], [13, 39], [8, 9, 10], [8, 9, 10]] = some f40 := by kernel_rfl
def tree12 : Tr := (.node (.node (.node (.node (.node (.node .nil 12 f12 .nil) 18 f18 .nil) 19 (.prim (pConst (.bool true))) (.node (.node .nil 32 f32 .nil) 39 f39 .nil)) 40 f40 (.node (.node (.node .nil 42 f42 .nil) 44 f44 .nil) 58 f58 (.node .nil 59 f59 .nil))) 60 f60 (.node (.node (.node (.node .nil 61 f61 .nil) 66 f66 .nil) 75 f75 (.node (.node .nil 76 f76 .nil) 77 f77 .nil)) 83 f83 (.node (.node (.node .nil 94 f94 .nil) 96 f96 .nil) 97 f97 (.node .nil 98 f98 .nil)))) 104 f104 (.node (.node (.node (.node (.node .nil 105 f105 .nil) 106 f106 .nil) 113 f113 (.node (.node .nil 114 f114 .nil) 117 f117 .nil)) 118 f118 (.node (.node (.node .nil 119 f119 .nil) 122 f122 .nil) 125 f125 (.node .nil 136 f136 .nil))) 138 f138 (.node (.node (.node (.node .nil 139 f139 .nil) 140 f140 .nil) 141 f141 (.node .nil 147 f147 .nil)) 149 f149 (.node (.node (.node .nil 165 f165 .nil) 166 f166 .nil) 167 f167 (.node .nil 168 f168 .nil)))))
def T12 : Nat → Option AFunc := tree12.get
theorem all12 : tree12.all (Entry Tryz.prog) := by
  unfold tree12
  exact (Tr.all_node (Tr.all_node (Tr.all_node (Tr.all_node (Tr.all_node (Tr.all_node Tr.all_nil (.of Tryz.func12 c12) Tr.all_nil) (.of Tryz.func18 c18) Tr.all_nil) ok19 (Tr.all_node (Tr.all_node Tr.all_nil (.of Tryz.func32 c32) Tr.all_nil) (.of Tryz.func39 c39) Tr.all_nil)) (.of Tryz.func40 c40) (Tr.all_node (Tr.all_node (Tr.all_node Tr.all_nil (.of Tryz.func42 c42) Tr.all_nil) (.of Tryz.func44 c44) Tr.all_nil) (.of Tryz.func58 c58) (Tr.all_node Tr.all_nil (.of Tryz.func59 c59) Tr.all_nil))) (.of Tryz.func60 c60) (Tr.all_node (Tr.all_node (Tr.all_node (Tr.all_node Tr.all_nil (.of Tryz.func61 c61) Tr.all_nil) (.of Tryz.func66 c66) Tr.all_nil) (.of Tryz.func75 c75) (Tr.all_node (Tr.all_node Tr.all_nil (.of Tryz.func76 c76) Tr.all_nil) (.of Tryz.func77 c77) Tr.all_nil)) (.of Tryz.func83 c83) (Tr.all_node (Tr.all_node (Tr.all_node Tr.all_nil (.of Tryz.func94 c94) Tr.all_nil) (.of Tryz.func96 c96) Tr.all_nil) (.of Tryz.func97 c97) (Tr.all_node Tr.all_nil (.of Tryz.func98 c98) Tr.all_nil)))) (.of Tryz.func104 c104) (Tr.all_node (Tr.all_node (Tr.all_node (Tr.all_node (Tr.all_node Tr.all_nil (.of Tryz.func105 c105) Tr.all_nil) (.of Tryz.func106 c106) Tr.all_nil) (.of Tryz.func113 c113) (Tr.all_node (Tr.all_node Tr.all_nil (.of Tryz.func114 c114) Tr.all_nil) (.of Tryz.func117 c117) Tr.all_nil)) (.of Tryz.func118 c118) (Tr.all_node (Tr.all_node (Tr.all_node Tr.all_nil (.of Tryz.func119 c119) Tr.all_nil) (.of Tryz.func122 c122) Tr.all_nil) (.of Tryz.func125 c125) (Tr.all_node Tr.all_nil (.of Tryz.func136 c136) Tr.all_nil))) (.of Tryz.func138 c138) (Tr.all_node (Tr.all_node (Tr.all_node (Tr.all_node Tr.all_nil (.of Tryz.func139 c139) Tr.all_nil) (.of Tryz.func140 c140) Tr.all_nil) (.of Tryz.func141 c141) (Tr.all_node Tr.all_nil (.of Tryz.func147 c147) Tr.all_nil)) (.of Tryz.func149 c149) (Tr.all_node (Tr.all_node (Tr.all_node Tr.all_nil (.of Tryz.func165 c165) Tr.all_nil) (.of Tryz.func166 c166) Tr.all_nil) (.of Tryz.func167 c167) (Tr.all_node Tr.all_nil (.of Tryz.func168 c168) Tr.all_nil)))))
theorem sound12 : SoundT Tryz.prog T12 := soundT_of (by kernel_rfl) all12
theorem fnsA12 : FnsA T12 := { p := sound12.primAS, f77 := by kernel_rfl, f117 := by kernel_rfl, f119 := by kernel_rfl, f147 := by kernel_rfl, f118 := by kernel_rfl, f66 := by kernel_rfl }
theorem fnsC12 : FnsC T12 := { p := sound12.primAS, f18 := by kernel_rfl, f77 := by kernel_rfl, f97 := by kernel_rfl, f122 := by kernel_rfl, f149 := by kernel_rfl }
theorem fnsE12 : FnsE T12 := { fnsA12, fnsC12 with f75 := by kernel_rfl, f96 := by kernel_rfl, f113 := by kernel_rfl }
theorem fnsH12 : FnsH T12 := { fnsE12 with f59 := by kernel_rfl, f60 := by kernel_rfl, f61 := by kernel_rfl, f114 := by kernel_rfl, f39 := by kernel_rfl }
theorem fnsV12 : FnsV T12 := { p := sound12.primAS, f94 := by kernel_rfl, f104 := by kernel_rfl, f105 := by kernel_rfl, f106 := by kernel_rfl, f136 := by kernel_rfl, f140 := by kernel_rfl, f141 := by kernel_rfl, f83 := by kernel_rfl }
theorem fnsW12 : FnsW T12 := { fnsE12, fnsV12 with f76 := by kernel_rfl, f32 := by kernel_rfl }
theorem fnsO12 : FnsO T12 := { p := sound12.primAS, f125 := by kernel_rfl, f165 := by kernel_rfl, f167 := by kernel_rfl, f106 := by kernel_rfl, f168 := by kernel_rfl }
theorem fnsP12 : FnsP T12 := { p := sound12.primAS, f140 := by kernel_rfl, f141 := by kernel_rfl, f166 := by kernel_rfl }
theorem fnsQ12 : FnsQ T12 := { fnsV12, fnsO12, fnsP12 with }
theorem fnsT12 : FnsT T12 := { fnsQ12 with f139 := by kernel_rfl, f138 := by kernel_rfl, f98 := by kernel_rfl }
theorem fnsU12 : FnsU T12 := { fnsW12, fnsT12 with f40 := by kernel_rfl, f42 := by kernel_rfl, f44 := by kernel_rfl }
theorem pu19D {h : Heap} : Pu T12 19 [] h (.bool true) := .prim (p := pConst (.bool true)) (by kernel_rfl) rfl ⟨rfl, rfl⟩
theorem fnsX12 : FnsX T12 := { fnsU12, fnsH12 with f58 := by kernel_rfl, f12 := by kernel_rfl, c19 := fun _ => pu19D }
theorem dear_calls {W : World} {sl : Value} {l : List Kd} (hk : KindsAt W sl l) (kerf w ht kind : Int) : Calls Tryz.prog 12 #[.agg #[sl, .int .i64 kerf], .int .i64 w, .int .i64 ht, .int .i64 kind] W fun e W' => e = .returned (.bool true) ∧ Below W.heap.size W W' := by
  obtain ⟨h, μ, u, n, c, a, L⟩ := hk.laid
  obtain ⟨r, h', ⟨m, hm⟩, rfl, rfl⟩ := law12 fnsX12 L.rdy L.at' kerf w ht kind
  have hrun := hm m (Nat.le_refl _)
  have hu : VR μ (.slice a n c) sl := L.form ▸ L.val
  have ha : LR μ [.agg #[.slice a n c, .int .i64 kerf], .int .i64 w, .int .i64 ht, .int .i64 kind] [.agg #[sl, .int .i64 kerf], .int .i64 w, .int .i64 ht, .int .i64 kind] :=
    .cons (VR.aggL (.cons hu (.cons (.int _ _) .nil))) (.cons (.int _ _) (.cons (.int _ _) (.cons (.int _ _) .nil)))
  refine (acall_calls sound12 hrun L.rdy.log (by kernel_rfl) L.rel ha).mono fun e W' hq => ?_
  obtain ⟨μ', q1, q2, q3⟩ := hq
  cases e with
  | returned v' =>
    have hv : VR μ' (.bool true) v' := q1
    cases hv
    exact ⟨rfl, St.below q3 L.ro⟩
  | panicked _ => exact q1.elim
  | outgrown => exact q1.elim
end Go.A.Pk
end
