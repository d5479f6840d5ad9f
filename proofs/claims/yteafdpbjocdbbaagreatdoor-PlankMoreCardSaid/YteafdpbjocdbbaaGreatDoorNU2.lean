/- Walks of functions, plain laws, the table. -/
import Derived.Test.YteafdpbjocdbbaaGreatDoorNU1
import Derived.Test.YteafdpbjocdbbaaGreatDoorNU0
import Derived.Test.YteafdpbjocdbbaaGreatDoorND
import Derived.Test.YteafdpbjocdbbaaGreatDoorNF
import Derived.Test.YteafdpbjocdbbaaGreatDoorNH
import Derived.Test.YteafdpbjocdbbaaGreatDoorNT
set_option linter.all false
section
set_option maxRecDepth 100000
namespace Go.A.Pk
variable {T : Nat → Option AFunc}
def idles (kerf : Int) (l : List Kd) (w ht : Int) (n : Nat) : List Int := ((List.range n).filter fun i => decide (kw kerf l i (w, ht) 0 < kb kerf l i (w, ht) 0)).map fun i : Nat => (i : Int)
theorem idles_succ (kerf : Int) (l : List Kd) (w ht : Int) (n : Nat) : idles kerf l w ht (n + 1) = idles kerf l w ht n ++ if kw kerf l n (w, ht) 0 < kb kerf l n (w, ht) 0 then [(n : Int)] else [] := by
  unfold idles
  rw [List.range_succ, List.filter_append, List.map_append]
  congr 1
  by_cases hc : kw kerf l n (w, ht) 0 < kb kerf l n (w, ht) 0 <;> simp [hc]
theorem idles_len (kerf : Int) (l : List Kd) (w ht : Int) : ∀ n, (idles kerf l w ht n).length ≤ n
  | 0 => Nat.le_refl _
  | n + 1 => by
    have := idles_len kerf l w ht n
    rw [idles_succ, List.length_append]
    split
    · simp; omega
    · simp; omega
theorem idles_mem {kerf : Int} {l : List Kd} {w ht : Int} {n k : Nat} (hk : k < n) : (k : Int) ∈ idles kerf l w ht n ↔ kw kerf l k (w, ht) 0 < kb kerf l k (w, ht) 0 := by
  unfold idles
  rw [List.mem_map]
  constructor
  · rintro ⟨a, ha, e⟩
    obtain rfl : a = k := by omega
    simpa using (List.mem_filter.1 ha).2
  · intro hc
    exact ⟨k, List.mem_filter.2 ⟨List.mem_range.2 hk, by simpa using hc⟩, rfl⟩
def idleL (kerf : Int) (l : List Kd) (w ht : Int) : List Int := if asked kerf l (OnB w ht) = 0 then idles kerf l w ht l.length else []
def IntsQ (er : Int) (xs : List Int) (v : Value) (h : Heap) : Prop := ∃ a c, v = .tuple #[.slice a xs.length c, .int .i64 er] ∧ SliceOf h 1 (.slice a xs.length c) xs.length (ints xs)
theorem IntsQ.log {er : Int} {xs : List Int} (v : Value) (h' : Heap) (m : List Nat) (q : IntsQ er xs v h') : IntsQ er xs v { h' with log := m } := by
  obtain ⟨a, c, h1, h2⟩ := q
  exact ⟨a, c, h1, h2.log m⟩
theorem IntsQ.gc {er : Int} {xs : List Int} {h : Heap} (v : Value) (h1 : Heap) (hv : noRef v = true) (q : IntsQ er xs v h1) : IntsQ er xs v h := by
  obtain ⟨a, c, rfl, h2⟩ := q
  refine ⟨a, c, rfl, ?_⟩
  generalize xs.length = n at *
  generalize ints xs = cs at *
  cases h2 with
  | nil => exact .nil
  | mem s _ => simp [noRef, flatL, flat, scalL, scal, scal1] at hv
theorem IntsQ.ret {er : Int} {xs : List Int} {s : Value} {h : Heap} (hs : SliceOf h 1 s xs.length (ints xs)) : IntsQ er xs (.tuple #[s, .int .i64 er]) h := by
  have hi := hs.inv
  rcases hi with ⟨c, rfl, h0, _⟩ | ⟨b, o, c, rfl, _, _⟩
  · refine ⟨none, c, ?_, ?_⟩
    · rw [h0]
    · rw [h0] at hs ⊢; exact hs
  · exact ⟨_, _, rfl, hs⟩
set_option maxHeartbeats 8000000 in
theorem idle44 (F : FnsU T) {h : Heap} (hr : Rdy h) {a : Option Addr} {n c : Nat} {l : List Kd} (hs : SliceOf h 5 (.slice a n c) n (kcs l)) (kerf : Int) (hn : n < 1000000) (w ht : Int) : Al T 44 [.agg #[.slice a n c, .int .i64 kerf], .int .i64 w, .int .i64 ht] h (IntsQ (asked kerf l (OnB w ht)) (idleL kerf l w ht)) := by
  have hp := F.toFnsT.toFnsV.p
  refine .of hp F.f44 hr IntsQ.gc ?_
  have hx : Ext h (h.push (.cells [.slice a n c, .int .i64 kerf] true 1)) := (Ext.refl h).push _
  obtain rfl : n = l.length := by have := hs.len; rw [kcs_length] at this; omega
  refine y4 ?_; refine yB ?_; refine yM ?_; refine yM ?_; refine y3 ?_; refine wE_seq ?_; refine wE_draw ?_
  refine qN ?_
  refine qM ?_; refine qM ?_
  refine qC ?_
  refine FW.puD (board76 F.toFnsW (.of (hx.wf hr.wf)) w ht) (by apply ra_dropC rfl; apply ra_dropC rfl; apply ra_keepC rfl (rq_quiet rfl (a_loadN (by exact rfl) (by (simp (disch := first | omega | (simp only [z1, z2]; omega)) only [z3, z4, z5, z6, z7, z1, z2, *]; exact rfl)) (by exact rfl) (by exact rfl)) (by exact sv_agg (by refine sl_cons (s1_slice _ _ _) ?_; refine sl_cons (s1_int _ _) ?_; exact sl_nil))) rfl; exact ra_nil) ?_
  refine wD_new rfl rfl rfl (by exact rfl) (by exact rfl) (by exact rfl) (a_bslice (by exact rfl) (by exact rfl)) (by refine rs_cons (rq_quiet rfl (a_loadN (by exact rfl) (by (simp (disch := first | omega | (simp only [z1, z2]; omega)) only [z3, z4, z5, z6, z7, z1, z2, *]; exact rfl)) (by exact rfl) (by exact rfl)) (by exact sv_agg (by refine sl_cons (s1_slice _ _ _) ?_; refine sl_cons (s1_int _ _) ?_; exact sl_nil))) ?_; exact rs_nil) ?_
  refine qC ?_
  have hx2 := hx.push (.cells [.bool (decide (OnB w ht))] true 1)
  refine FW.alD (startedB75 F.toFnsW.toFnsE (.of (hx2.wf hr.wf)) ((hs.ext hx2).log []) kerf hn (bl := [decide (OnB w ht)]) (m := 1) (.mem ⟨Nat.lt_succ_self _, ⟨_, _, _, z3 _ _, rfl⟩, rfl⟩ (Nat.le_refl _)) (by omega)) (fun v h' m q => StartQ.logs v h' m q) ?_
  rintro _ h1 hx3 ⟨p, rfl, hst⟩
  rw [startE_one] at hst
  rw [startE_one]
  refine ⟨_, by apply ra_dropC rfl; apply ra_dropC rfl; exact ra_nil, ?_⟩
  have w1 : WF h1 := hx3.wf (hx2.wf hr.wf)
  have hx13 : Ext h h1 := hx2.trans hx3
  have hl1 : h1.log = [] := hx13.log.trans hr.log
  by_cases ha : asked kerf l (OnB w ht) = 0
  · obtain ⟨bb, wa, wc, rfl, gb, hws⟩ := hst ha
    obtain ⟨hc, hb⟩ := asked_zero ha
    have hks := hs.ext hx13
    have hN1 := hx13.next
    have kb1 := WF.get_lt w1 gb
    have hl12 := (chk_iff.1 hc).1
    clear hst hx3
    unfold idleL
    rw [if_pos ha, ha]
    refine qM ?_; refine qE ?_; refine qE ?_
    refine qM ?_; refine qM ?_; refine wD_nil ?_; refine y1 ?_; refine kS_n ?_; refine wE_seq ?_; refine y4 ?_
    refine yM ?_; refine yf ?_; refine y3 ?_; refine yX ?_; refine wE_skip ?_; refine kS_n ?_; refine y4 ?_
    refine yM ?_; refine y3 ?_; refine wE_seq ?_; refine y4 ?_; refine yM ?_; refine wO_val (a_nilchk (by exact rfl)) ?_; refine yF ?_
    refine yF ?_; refine yL ?_; refine yD ?_; refine yM ?_; refine y3 ?_; refine wE_block ?_
    refine wE_loop (fun m e ds h' => ∃ (i : Nat) (v : Value), i ≤ l.length ∧ m = l.length - i ∧ e = [(1, .int .i64 w), (2, .int .i64 ht), (8, .pointer (some ⟨bb, 0, none⟩)), (10, v), (31, .int .i64 l.length), (32, .int .i64 i)] ∧ ds = [] ∧ Ext h1 h' ∧ Own h1.next h' 1 v (idles kerf l w ht i).length (ints (idles kerf l w ht i)))
      ⟨0, _, Nat.zero_le _, rfl, rfl, rfl, .refl _, .nil⟩ ?_
    rintro m e ds h' ⟨i, v, hin, rfl, rfl, rfl, hx', own⟩
    by_cases hlt : i < l.length
    · refine y4 ?_; refine yt ?_; refine y3 ?_; refine wE_seq ?_; refine yY ?_; refine wE_skip ?_; refine kS_n ?_; refine wE_seq ?_; refine wE_block ?_; refine y4 ?_; refine yM ?_; refine yM ?_; refine y3 ?_; refine y4 ?_; refine yM ?_; refine yM ?_; refine yM ?_
      refine yM ?_
      refine yC ?_
      refine FW.pu (kindlyK F (.of (hx'.wf w1)) hc hb hlt (by omega) ((hx'.old _ kb1).trans gb) ((hks.ext hx').log []) ((hws.ext hx').log [])) ?_
      by_cases hlt2 : kw kerf l i (w, ht) 0 < kb kerf l i (w, ht) 0
      · refine yM ?_; refine yE ?_; refine yE ?_; refine yM ?_; refine yM ?_; refine y3 ?_; refine y4 ?_; refine yM ?_; refine yM ?_; refine yt ?_; refine y3 ?_; refine yY ?_; refine wE_region ?_
        refine yM ?_; refine yM ?_; refine wO_val (a_bslice (by exact rfl) (by exact rfl)) ?_
        have hle := idles_len kerf l w ht i
        refine wO_app1 (lo := h1.next) (c1 := [.int .i64 i]) (own.ext ((Ext.refl h').push _)) (by omega) (by omega) (by omega) (by show h1.next ≤ h'.next + 1; have := hx'.next; omega) (by omega) (by exact rfl) (by exact rfl) (src_slice (cs := [.int .i64 i]) (by (simp (disch := first | omega | (simp only [z1, z2]; omega)) only [z3, z4, z5, z6, z7, z1, z2, *]; exact rfl)) rfl rfl) rfl rfl ?_
        intro v' h2 own' hx2'
        have hx4 : Ext h1 h2 := (((hx'.push (.cells [.int .i64 i] true 1)).lx (Nat.le_refl _)).trans hx2').ext
        refine yM ?_; refine wO_nil ?_; refine y1 ?_; refine kB_n ?_; refine kS_n ?_; refine wE_region ?_; refine yinc ?_; refine yM ?_; refine y3 ?_
        refine ⟨l.length - (i + 1), by omega, i + 1, v', by omega, rfl, rfl, rfl, hx4, ?_⟩
        rw [idles_succ, if_pos hlt2, List.length_append]
        have e1 : ints (idles kerf l w ht i ++ [(i : Int)]) = ints (idles kerf l w ht i) ++ [.int .i64 i] := by simp [ints]
        rw [e1]
        exact own'
      · refine yM ?_; refine yE ?_; refine yE ?_; refine yM ?_; refine yM ?_; refine y3 ?_; refine y4 ?_; refine yM ?_; refine yM ?_; refine yf ?_; refine y3 ?_; refine yX ?_; refine wE_skip ?_; refine kB_n ?_
        refine kS_n ?_; refine wE_region ?_; refine yinc ?_; refine yM ?_; refine y3 ?_
        refine ⟨l.length - (i + 1), by omega, i + 1, v, by omega, rfl, rfl, rfl, hx', ?_⟩
        rw [idles_succ, if_neg hlt2, List.append_nil]
        exact own
    · obtain rfl : i = l.length := by omega
      refine y4 ?_; refine yf ?_; refine y3 ?_; refine wE_seq ?_; refine yX ?_; refine wE_exit ?_; refine kS_e ?_; refine kS_e ?_; refine kB_e ?_; refine kS_n ?_
      refine y4 ?_; refine yM ?_; refine yM ?_; refine yM ?_; refine y3 ?_; refine wE_ret ?_
      refine endA_ret (vs := [v, .int .i64 0]) (hx'.log.trans hl1) rfl (.ret (own.slice ?_))
      have := idles_len kerf l w ht l.length
      omega
  · unfold idleL
    rw [if_neg ha]
    refine qM ?_; refine qE ?_; refine qE ?_
    refine qM ?_; refine qM ?_; refine wD_nil ?_; refine y1 ?_; refine kS_n ?_; refine wE_seq ?_; refine y4 ?_
    refine yM ?_; refine yt ?_; refine y3 ?_; refine yY ?_; refine y4 ?_; refine yM ?_
    refine yM ?_; refine yM ?_; refine y3 ?_; refine wE_ret ?_; refine kS_r ?_
    exact endA_ret (vs := [.slice none 0 0, .int .i64 (asked kerf l (OnB w ht))]) hl1 rfl ⟨none, 0, rfl, .nil⟩
end Go.A.Pk
end
section
namespace Go.A.Pk
theorem leavesL_shape {a b : Nat} : ∀ {l m : List Kd} {i : Nat}, (l.map fun k => (k.w, k.h, k.turn)) = (m.map fun k => (k.w, k.h, k.turn)) → leavesL a b l i = leavesL a b m i
  | [], [], _, _ => rfl
  | [], _ :: _, _, h => by simp at h
  | _ :: _, [], _, h => by simp at h
  | x :: l, y :: m, i, h => by
    simp only [List.map_cons, List.cons.injEq, Prod.mk.injEq] at h
    simp only [leavesL]
    rw [leavesL_shape (i := i + 1) h.2]
    unfold leafAt
    rw [h.1.1, h.1.2.1, h.1.2.2]
theorem VF_shape {kerf : Int} {ws : List Int} {l m : List Kd} (h : ∀ a b, leavesL a b l 0 = leavesL a b m 0) : ∀ (n : Nat) (p : Int × Int), VF kerf ws l n p = VF kerf ws m n p
  | 0, _ => rfl
  | n + 1, p => by
    rw [VF, VF, h]
    simp only [VF_shape h n]
theorem raise_shape (l : List Kd) (i v : Int) : ((raise l i v).map fun k => (k.w, k.h, k.turn)) = l.map fun k => (k.w, k.h, k.turn) := by
  unfold raise
  apply List.ext_getElem?
  intro j
  rw [List.getElem?_map, List.getElem?_map, List.getElem?_modify]
  split
  · cases l[j]? <;> rfl
  · simp
theorem raise_ws {l : List Kd} {k : Nat} (v : Int) : wsOf (raise l k v) = (wsOf l).set k v := by
  unfold raise wsOf
  apply List.ext_getElem?
  intro j
  rw [List.getElem?_map, List.getElem?_modify, List.getElem?_set]
  simp only [Int.toNat_natCast]
  by_cases h : k = j
  · subst h
    by_cases hl : k < l.length
    · simp [hl]
    · simp [hl]
  · simp [h]
theorem kw_lt {kerf : Int} {l : List Kd} (hc : chk kerf l = 0) {w ht : Int} (hb : OnB w ht) {k : Nat} (hk : k < l.length) : (k : Int) ∈ idleL kerf l w ht ↔ kw kerf l k (w, ht) 0 < kb kerf l k (w, ht) 0 := by
  unfold idleL
  rw [if_pos (asked_ok hc hb)]
  exact idles_mem hk
end Go.A.Pk
end
section
set_option maxRecDepth 100000
namespace Go.A.Pk
variable {T : Nat → Option AFunc}
theorem askK_no {kerf : Int} {l : List Kd} {w ht kind : Int} (h : ¬ asked kerf l (OnB w ht) = 0) : ¬ askK kerf l w ht kind = 0 := fun q => by
  obtain ⟨h1, h2, _⟩ := asked_zero q
  exact h (asked_ok h1 h2)
end Go.A.Pk
end
section
set_option maxRecDepth 100000
namespace Go.A.Pk
variable {T : Nat → Option AFunc}
structure PWS (l : Nat) (S : Nat → Prop) (H0 : Heap) (L : AObj) (P0 : List (Nat × Nat) → Heap → Prop) (done : List (Nat × Nat)) (H : Heap) : Prop where
  old : ∀ x, x < l → ¬ S x → H.get x = H0.get x
  obj : P0 done H
  loop : H.get l = some L
  nx : l < H.next
theorem PWS.stable {l : Nat} {S : Nat → Prop} {H0 : Heap} {L : AObj} {P0 : List (Nat × Nat) → Heap → Prop} (hS : ∀ x, S x → x < l) (hP0 : ∀ d H H', (∀ x, S x → H'.get x = H.get x) → P0 d H → P0 d H') (done : List (Nat × Nat)) (H H' : Heap) (p : PWS l S H0 L P0 done H) (hn : l + 1 ≤ H'.next) (h : ∀ x, x < l + 1 → H'.get x = H.get x) : PWS l S H0 L P0 done H' :=
  ⟨fun x hx hne => (h x (by omega)).trans (p.old x hx hne), hP0 _ _ _ (fun x hx => h x (Nat.lt_succ_of_lt (hS x hx))) p.obj, (h l (by omega)).trans p.loop, hn⟩
theorem PWS.yld (hp : primAS T) {l lo : Nat} {S : Nat → Prop} {H0 : Heap} {L : AObj} {P0 : List (Nat × Nat) → Heap → Prop} {V : Nat × Nat → Value} {all : List (Nat × Nat)} (hS : ∀ x, S x → lo ≤ x ∧ x < l) (hP0 : ∀ d H H', (∀ x, S x → H'.get x = H.get x) → P0 d H → P0 d H')
    (hround : ∀ done x H', x ∈ all → Rdy H' → l < H'.next → PWS l S H0 L P0 done H' → FW T (.yield l) [V x] H' fun r H'' => r = .ret (.bool true) ∧ (∀ z ∈ H''.log, S z) ∧ (∀ z, z < H'.next → ¬ S z → H''.get z = H'.get z) ∧ P0 (done ++ [x]) H'') :
    Yld T lo (l + 1) l V all (PWS l S H0 L P0) where
  yields := fun done x H hx hr hN hP => FW.mono' (FW.withAS hp (hround done x H hx hr hN hP) hr.log) fun r H' ⟨hA, h1, h2, h3, h4⟩ => ⟨h1, fun z hz => by have := hS z (h2 z hz); omega, ⟨fun y hy hne => (h3 y (by omega) hne).trans (hP.old y hy hne), h4, (h3 l (by omega) (fun q => by have := hS l q; omega)).trans hP.loop, Nat.lt_of_lt_of_le hP.nx hA.next⟩⟩
  stable := fun done H H' p hn h => PWS.stable (fun x hx => (hS x hx).2) hP0 done H H' p hn h
theorem inner_rangeS {base : Nat} {rnd : Option Nat} {e : Env} {ds : Dfs} {Q : XQ} {h1 : Heap} {f : Operand} {g lo : Nat} {S : Nat → Prop} {first cap : Array Value} {ps : List Nat} {asg body : ACode} {all : List (Nat × Nat)} {P0 : List (Nat × Nat) → Heap → Prop} (hr : roundA h1 rnd = true) (hf : ev h1 e f = some (.func (.func g) first cap)) (hnc : notCode (T g) = false)
    (hB : base ≤ h1.next) (hq : base ≤ lo) (hlog : h1.log = []) (w1 : WF h1) (hS : ∀ x, S x → lo ≤ x ∧ x < h1.next) (hP0 : ∀ d H H', (∀ x, S x → H'.get x = H.get x) → P0 d H → P0 d H')
    (HG : Gr T g (lcat first.toList (lcat [.func (.yield h1.next) #[] #[]] cap.toList)) { h1.push (.loop e ps asg body 0 .normal) with log := [] } lo fun v h' => v = .tuple #[] ∧ PWS h1.next S h1 (.loop e ps asg body 0 .normal) P0 all h')
    (K : ∀ h3, h3.log = [] → WF h3 → h1.next ≤ h3.next → (∀ z, z < h1.next → ¬ S z → h3.get z = h1.get z) → P0 all h3 → Q .normal e ds h3) : WE T base rnd (.rangeFunc f ps asg body) Q e ds h1 := by
  refine wE_range hr hf hnc (CW.mono HG ?_)
  rintro r h2 ⟨hk, v, rfl, rfl, hP⟩
  refine ⟨_, rfl, _, _, _, _, _, _, hP.loop, rfl, ?_⟩
  have hl2 : LogGe base h2.log := fun z hz => Nat.le_trans hq (hk.log (LogGe.nil _) z hz)
  refine K _ ?_ ?_ ?_ (fun z hz hne => ?_) ?_
  · rw [Heap.log_wr_new hB]
    show mergeLog base h1.log h2.log = []
    rw [mergeLog_ge hl2, hlog]
  · exact ((hk.wf ((w1.push _).log _)).log _).as (AS.wr _ _ _ _)
  · have := hk.next
    have e1 : h1.next + 1 ≤ h2.next := this
    show h1.next ≤ h2.next
    omega
  · exact (z5 (by omega)).trans (hP.old z hz hne)
  · exact hP0 all h2 _ (fun x hx => z5 (by have := hS x hx; omega)) hP.obj
section
variable {α : Type} (f : α → Value) (d : α)
abbrev TabG (α : Type) := List ((Nat × Nat) × α)
def entsG (t : TabG α) : List (Value × Value) := t.map fun e => (boardV e.1, f e.2)
def isKeyG (x : Int × Int) (k : Nat × Nat) : Bool := decide (x.1 = k.1 ∧ x.2 = k.2)
def lookG : TabG α → Int × Int → α
  | [], _ => d
  | e :: t, x => if isKeyG x e.1 then e.2 else lookG t x
def updG : TabG α → Nat × Nat → α → TabG α
  | [], x, v => [(x, v)]
  | e :: t, x, v => if isKeyG (x.1, x.2) e.1 then (x, v) :: t else e :: updG t x v
theorem keyEq_boardG (x : Int × Int) (k : Nat × Nat) : keyEq true L2 (pairV x) (boardV k) = some (isKeyG x k) := by
  show leavesEq L2 [.int .i64 x.1, .int .i64 x.2] [.int .i64 k.1, .int .i64 k.2] = _
  rw [L2, leaves2]; rfl
theorem find_lookG (x : Int × Int) : ∀ (t : TabG α) (i : Nat), (findA true L2 (pairV x) i (entsG f t) = some none ∧ lookG d t x = d) ∨ ∃ j, findA true L2 (pairV x) i (entsG f t) = some (some (j, f (lookG d t x)))
  | [], i => .inl ⟨rfl, rfl⟩
  | e :: t, i => by
    simp only [entsG, List.map_cons, findA, keyEq_boardG, lookG]
    cases isKeyG x e.1 with
    | true => exact .inr ⟨i, rfl⟩
    | false => exact find_lookG x t (i + 1)
theorem find_updG (x : Nat × Nat) (v : α) : ∀ (t : TabG α) (i : Nat), (findA true L2 (boardV x) i (entsG f t) = some none ∧ updG t x v = t ++ [(x, v)]) ∨ ∃ j u, findA true L2 (boardV x) i (entsG f t) = some (some (i + j, u)) ∧ entsG f (updG t x v) = lset (entsG f t) j (boardV x, f v)
  | [], i => .inl ⟨rfl, rfl⟩
  | e :: t, i => by
    have hk : keyEq true L2 (boardV x) (boardV e.1) = some (isKeyG (x.1, x.2) e.1) := keyEq_boardG (x.1, x.2) e.1
    simp only [entsG, List.map_cons, findA, hk, updG]
    cases isKeyG (x.1, x.2) e.1 with
    | true => exact .inr ⟨0, _, rfl, rfl⟩
    | false =>
      rcases find_updG x v t (i + 1) with ⟨h1, h2⟩ | ⟨j, u, h1, h2⟩
      · exact .inl ⟨h1, by simp [h2]⟩
      · refine .inr ⟨j + 1, u, ?_, ?_⟩
        · rw [show i + (j + 1) = i + 1 + j by omega]; exact h1
        · simp only [entsG] at h2
          simp [lset, h2]
theorem a_lookupG {base : Nat} {h : Heap} {e : Env} {m k : Operand} {r : Nat} {t : TabG α} {x : Int × Int} (hm : ev h e m = some (.map (some r))) (hk : ev h e k = some (pairV x)) (hr : h.get r = some (.map (entsG f t))) {dv : Value} (hd : dv = f d) : aop h base e (.lookup true [.i .i64, .i .i64] dv false m k) = some (.val (f (lookG d t x)) h) := by
  subst hd
  have e2 : ([.i .i64, .i .i64] : List Leaf) = L2 := rfl
  rcases find_lookG f d x t 0 with ⟨h1, h2⟩ | ⟨j, h1⟩
  · simp only [aop, hm, hk, hr, e2, keyOk_pair, h1, h2, cond_true, cond_false]
  · simp only [aop, hm, hk, hr, e2, keyOk_pair, h1, cond_true, cond_false]
theorem a_mapUpG {base : Nat} {h : Heap} {e : Env} {m k v : Operand} {r : Nat} {t : TabG α} {x : Nat × Nat} {z : α} (hm : ev h e m = some (.map (some r))) (hk : ev h e k = some (boardV x)) (hv : ev h e v = some (f z)) (hr : h.get r = some (.map (entsG f t))) : aop h base e (.mapUp true [.i .i64, .i .i64] m k v) = some (.val (.tuple #[]) (h.wr base r (.map (entsG f (updG t x z))))) := by
  have e2 : ([.i .i64, .i .i64] : List Leaf) = L2 := rfl
  rcases find_updG f x z t 0 with ⟨h1, h2⟩ | ⟨j, u, h1, h2⟩
  · have h3 : lcat (entsG f t) [(boardV x, f z)] = entsG f (updG t x z) := by rw [h2, lcat_eq]; simp [entsG]
    simp only [aop, hm, hk, hv, hr, e2, keyOk_board, h1, cond_true, h3]
  · rw [Nat.zero_add] at h1
    simp only [aop, hm, hk, hv, hr, e2, keyOk_board, h1, cond_true, ← h2]
theorem look_updG {x : Nat × Nat} {v : α} : ∀ (t : TabG α) (y : Int × Int), lookG d (updG t x v) y = if y = ((x.1 : Int), (x.2 : Int)) then v else lookG d t y
  | [], y => by
    have e1 : isKeyG y x = decide (y = ((x.1 : Int), (x.2 : Int))) := by
      unfold isKeyG
      exact decide_eq_decide.2 ⟨fun q => Prod.ext q.1 q.2, fun q => by rw [q]; exact ⟨rfl, rfl⟩⟩
    simp only [updG, lookG]
    rw [e1]
    by_cases h : y = ((x.1 : Int), (x.2 : Int))
    · simp [h]
    · simp [h]
  | e :: t, y => by
    simp only [updG]
    by_cases hk : isKeyG (x.1, x.2) e.1 = true
    · rw [if_pos hk]
      simp only [lookG]
      simp only [isKeyG, decide_eq_true_eq] at hk
      have e1 : isKeyG y x = decide (y = ((x.1 : Int), (x.2 : Int))) := by
        unfold isKeyG
        exact decide_eq_decide.2 ⟨fun q => Prod.ext q.1 q.2, fun q => by rw [q]; exact ⟨rfl, rfl⟩⟩
      have e2 : isKeyG y e.1 = decide (y = ((x.1 : Int), (x.2 : Int))) := by
        unfold isKeyG
        exact decide_eq_decide.2 ⟨fun q => Prod.ext (q.1.trans hk.1.symm) (q.2.trans hk.2.symm), fun q => by rw [q]; exact hk⟩
      rw [e1, e2]
      by_cases h : y = ((x.1 : Int), (x.2 : Int))
      · simp [h]
      · simp [h]
    · rw [if_neg hk]
      simp only [lookG]
      rw [look_updG t y]
      by_cases h : y = ((x.1 : Int), (x.2 : Int))
      · have : isKeyG y e.1 = false := by rw [h]; simpa using hk
        simp [h, this]
        intro q
        rw [h] at this
        rw [this] at q; cases q
      · simp [h]
end
end Go.A.Pk
end
section
set_option maxRecDepth 100000
namespace Go.A.Pk
variable {T : Nat → Option AFunc}
def mn (a b : Int) : Int := if b < a then b else a
theorem a_min {base : Nat} {h : Heap} {e : Env} {x y : Operand} {a b : Int} (hx : ev h e x = some (.int .i64 a)) (hy : ev h e y = some (.int .i64 b)) : aop h base e (.minmax false [x, y]) = some (.val (.int .i64 (mn a b)) h) := by
  simp only [aop, evs, hx, hy, mmA, if_true, bindV, mn]; rfl
def addS (b : Int) (st : (Int × Int) × Bool) (w : Int) (o : Int × Int) : (Int × Int) × Bool :=
  if w = b then (if st.2 = true then ((mn st.1.1 o.1, mx st.1.2 o.2), true) else (o, true)) else st
theorem add103 (hp : primAS T) (hf : T 103 = some f103) {h : Heap} (hr : Rdy h) {p2 p3 p4 p5 mb : Nat} {t : Tab} {x : Int × Int} {st : (Int × Int) × Bool} {w : Int} {o : Int × Int}
    (g2 : h.get p2 = some (.cells [.map (some mb)] true 1)) (gm : h.get mb = some (.map (ents t))) (g3 : h.get p3 = some (.cells [.int .i64 x.1, .int .i64 x.2] true 1)) (g4 : h.get p4 = some (.cells [.bool st.2] true 1)) (g5 : h.get p5 = some (.cells [.int .i64 st.1.1, .int .i64 st.1.2] true 1)) (h45 : p4 ≠ p5) :
    Gs T 103 [.int .i64 w, .agg #[.int .i64 o.1, .int .i64 o.2], .pointer (some ⟨p2, 0, none⟩), .pointer (some ⟨p3, 0, none⟩), .pointer (some ⟨p4, 0, none⟩), .pointer (some ⟨p5, 0, none⟩)] h (fun z => z = p4 ∨ z = p5)
      fun v h' => v = .tuple #[] ∧ h'.get p4 = some (.cells [.bool (addS (look t x) st w o).2] true 1) ∧ h'.get p5 = some (.cells [.int .i64 (addS (look t x) st w o).1.1, .int .i64 (addS (look t x) st w o).1.2] true 1) := by
  have k2 := WF.get_lt hr.wf g2
  have k3 := WF.get_lt hr.wf g3
  have k4 := WF.get_lt hr.wf g4
  have k5 := WF.get_lt hr.wf g5
  have km := WF.get_lt hr.wf gm
  have l0 : ∀ {o : AObj}, ∀ z ∈ (h.push o).log, z = p4 ∨ z = p5 := fun z hz => by
    rw [Heap.log_push, hr.log] at hz; cases hz
  refine .of hp hf (fun v h1 h2 _ hn ha q => ⟨q.1, (ha _ k4).trans q.2.1, (ha _ k5).trans q.2.2⟩) ?_
  obtain ⟨⟨s1, s2⟩, s3⟩ := st
  refine y4 ?_; refine yB ?_; refine y3 ?_; refine wE_block ?_; refine y4 ?_; refine yM ?_
  refine yL ?_
  refine yN ?_
  refine wO_val (a_lookup (x := x) (by exact rfl) (by exact rfl) (by (simp (disch := first | omega | (simp only [z1, z2]; omega)) only [z3, z4, z5, z6, z7, z1, z2, *]; exact rfl))) ?_
  unfold addS
  by_cases hw : w = look t x
  · simp only [if_pos hw]
    cases s3 with
    | false =>
      simp only [Bool.false_eq_true, if_false]
      refine yf ?_; refine yM ?_; refine y3 ?_; refine yX ?_; refine y4 ?_
      refine yL ?_; refine yA ?_; refine yM ?_; refine y3 ?_; refine yY ?_; refine wE_region ?_
      refine yN ?_
      refine yS ?_
      refine yS ?_; refine wO_nil ?_
      refine y1 ?_; refine kB_n ?_
      refine endS_end (vs := []) (wr_log (wr_log l0 (.inr rfl)) (.inl rfl)) rfl ⟨rfl, ?_, ?_⟩
      · (simp (disch := first | omega | (simp only [z1, z2]; omega)) only [z3, z4, z5, z6, z7, z1, z2, *]; exact rfl)
      · (simp (disch := first | omega | (simp only [z1, z2]; omega)) only [z3, z4, z5, z6, z7, z1, z2, *]; exact rfl)
    | true =>
      simp only [if_true]
      refine yf ?_; refine yM ?_; refine y3 ?_; refine yX ?_; refine y4 ?_
      refine yL ?_; refine yA ?_; refine yM ?_; refine y3 ?_; refine yX ?_; refine wE_region ?_; refine yF ?_
      refine yL ?_; refine yF ?_
      refine yL ?_
      refine wO_val (a_min (by exact rfl) (by exact rfl)) ?_
      refine yF ?_; refine yL ?_; refine yF ?_
      refine yL ?_
      refine wO_val (a_max (by exact rfl) (by exact rfl)) ?_
      refine wO_val (a_build (by exact rfl)) ?_; refine yS ?_; refine wO_nil ?_
      refine y1 ?_; refine kB_n ?_
      refine endS_end (vs := []) (wr_log l0 (.inr rfl)) rfl ⟨rfl, ?_, ?_⟩
      · (simp (disch := first | omega | (simp only [z1, z2]; omega)) only [z3, z4, z5, z6, z7, z1, z2, *]; done)
      · (simp (disch := first | omega | (simp only [z1, z2]; omega)) only [z3, z4, z5, z6, z7, z1, z2, *]; exact rfl)
  · simp only [if_neg hw]
    refine yt ?_; refine yM ?_; refine y3 ?_; refine yY ?_; refine wE_skip ?_; refine kB_n ?_
    refine endS_end (vs := []) l0 rfl ⟨rfl, ?_, ?_⟩
    · (simp (disch := first | omega | (simp only [z1, z2]; omega)) only [z3, z4, z5, z6, z7, z1, z2, *]; done)
    · (simp (disch := first | omega | (simp only [z1, z2]; omega)) only [z3, z4, z5, z6, z7, z1, z2, *]; done)
end Go.A.Pk
end
section
set_option maxRecDepth 100000
namespace Go.A.Pk
variable {T : Nat → Option AFunc}
def asg46a : ACode := (.region [g 14 (.new [(.int .i64 0), (.int .i64 0)]), ⟨none, .store 2 (t 14) (t 47), none⟩] [7, 11, 12, 13, 14])
def body46a : ACode := (.block 1 (.seq (.region [g 48 (.build [(.int .i64 0), (.int .i64 0)] []), g 15 (.new [(.int .i64 0), (.int .i64 0)]), g 16 (.new [(.bool false)]), ⟨none, .store 2 (t 15) (t 48), none⟩, ⟨none, .store 1 (t 16) (.const (.bool false)), none⟩] [7, 11, 12, 13, 14, 15, 16])
 (.seq (.region [g 49 (.mkFunc (.func 103) [] [(t 12), (t 14), (t 16), (t 15)]), g 17 (.new [.nilFunc]), ⟨none, .store 1 (t 17) (t 49), none⟩] [7, 11, 12, 13, 14, 15, 17])
 (.seq (.region [g 50 (.load none (t 17)), g 51 (.build [(.int .i64 0), (.int .i64 0)] []), g 52 (.call (t 50) [(.const (.int .i64 0)), (t 51)])] [7, 11, 12, 13, 14, 15, 17])
 (.seq (.seq (.region [g 53 (.load none (t 11)), g 54 (.load (some 2) (t 14)), g 55 (.call (.func 104) [(t 53), (t 54)])] [7, 11, 12, 13, 14, 15, 17, 55])
 (.block 2 (.rangeFunc (t 55) [56] (.region [g 18 (.new [(.int .u8 0), (.int .i64 0)]), ⟨none, .store 2 (t 18) (t 56), none⟩] [7, 11, 17, 18]) (.block 3 (.seq (.region [g 57 (.build [(.int .i64 0), (.int .i64 0)] []), g 19 (.new [(.int .i64 0), (.int .i64 0)]), ⟨none, .store 2 (t 19) (t 57), none⟩] [7, 11, 17, 18, 19])
 (.seq (.seq (.region [g 58 (.faddr 1 (t 18)), g 59 (.load none (t 58)), g 60 (.load none (t 7)), g 61 (.bin (.num .eql) (t 59) (t 60))] [11, 17, 18, 19, 61])
 (.cond (t 61) (.region [g 62 (.build [(.int .i64 0), (.int .i64 0)] [(0, 1, (.const (.int .i64 1))), (1, 1, (.const (.int .i64 1)))]), ⟨none, .store 2 (t 19) (t 62), none⟩] [11, 17, 18, 19]) .skip))
 (.draw [g 63 (.load none (t 17)), g 64 (.load none (t 11)), g 65 (.nilchk (t 64)), g 66 (.faddr 2 (t 65)), g 67 (.load none (t 66)), g 68 (.faddr 1 (t 18)), g 69 (.load none (t 68)), g 70 (.iaddrS 1 (t 67) (t 69)), g 71 (.load none (t 70)), g 72 (.load (some 2) (t 19)), g 73 (.call (t 63) [(t 71), (t 72)])] [0, 1, 2, 3, 4, 5, 6, 7, 8, 9, 10] [0, 0, 2, 6, 14, 0, 32, 126, 254, 0, 1023] [])))))))
 (.seq (.seq (.region [g 74 (.load none (t 11)), g 75 (.load (some 2) (t 14)), g 76 (.call (.func 105) [(t 74), (t 75)])] [11, 12, 13, 14, 15, 17, 76])
 (.block 4 (.rangeFunc (t 76) [77] (.region [g 20 (.new [(.int .u8 0), (.int .i64 0)]), ⟨none, .store 2 (t 20) (t 77), none⟩] [11, 12, 13, 14, 17, 20]) (.block 5 (.seq (.region [g 79 (.load none (t 11)), g 80 (.load (some 2) (t 14)), g 81 (.load (some 2) (t 20)), g 82 (.call (.func 106) [(t 79), (t 80), (t 81)]), g 78 (.mov (t 82)), g 83 (.extract (t 78) 0), g 84 (.extract (t 78) 1), g 21 (.new [(.int .i64 0), (.int .i64 0)]), g 22 (.new [(.int .i64 0), (.int .i64 0)]), ⟨none, .store 2 (t 21) (t 83), none⟩, ⟨none, .store 2 (t 22) (t 84), none⟩] [12, 13, 17, 21, 22])
 (.draw [g 85 (.load none (t 17)), g 86 (.load none (t 12)), g 87 (.load (some 2) (t 21)), g 88 (.lookup true [.i .i64, .i .i64] (.int .i64 0) false (t 86) (t 87)), g 89 (.load none (t 12)), g 90 (.load (some 2) (t 22)), g 91 (.lookup true [.i .i64, .i .i64] (.int .i64 0) false (t 89) (t 90)), g 92 (.bin (.num .add) (t 88) (t 91)), g 93 (.load none (t 13)), g 94 (.load (some 2) (t 21)), g 95 (.lookup true [.i .i64, .i .i64] (.agg #[(.int .i64 0), (.int .i64 0)]) false (t 93) (t 94)), g 96 (.field 0 none (t 95)), g 97 (.load none (t 13)), g 98 (.load (some 2) (t 22)), g 99 (.lookup true [.i .i64, .i .i64] (.agg #[(.int .i64 0), (.int .i64 0)]) false (t 97) (t 98)), g 100 (.field 0 none (t 99)), g 101 (.bin (.num .add) (t 96) (t 100)), g 102 (.load none (t 13)), g 103 (.load (some 2) (t 21)), g 104 (.lookup true [.i .i64, .i .i64] (.agg #[(.int .i64 0), (.int .i64 0)]) false (t 102) (t 103)), g 105 (.field 1 none (t 104)), g 106 (.load none (t 13)), g 107 (.load (some 2) (t 22)), g 108 (.lookup true [.i .i64, .i .i64] (.agg #[(.int .i64 0), (.int .i64 0)]) false (t 106) (t 107)), g 109 (.field 1 none (t 108)), g 110 (.bin (.num .add) (t 105) (t 109)), g 111 (.build [(.int .i64 0), (.int .i64 0)] [(0, 1, (t 101)), (1, 1, (t 110))]), g 112 (.call (t 85) [(t 92), (t 111)])] [0, 1, 2, 3, 4, 5, 6, 7, 8, 9, 10, 11, 12, 13, 14, 15, 16, 17, 18, 19, 20, 21, 22, 23, 24, 25, 26, 27] [0, 0, 0, 6, 0, 0, 48, 126, 0, 0, 768, 1792, 0, 0, 12288, 28672, 65280, 0, 0, 393216, 917504, 0, 0, 6291456, 14680064, 33423360, 67108608, 134217727] []))))))
 (.region [g 113 (.load none (t 13)), g 114 (.load (some 2) (t 14)), g 115 (.load (some 2) (t 15)), ⟨none, .mapUp true [.i .i64, .i .i64] (t 113) (t 114) (t 115), none⟩] [])))))))
def asg46b : ACode := (.region [g 18 (.new [(.int .u8 0), (.int .i64 0)]), ⟨none, .store 2 (t 18) (t 56), none⟩] [7, 11, 17, 18])
def body46b : ACode := (.block 3 (.seq (.region [g 57 (.build [(.int .i64 0), (.int .i64 0)] []), g 19 (.new [(.int .i64 0), (.int .i64 0)]), ⟨none, .store 2 (t 19) (t 57), none⟩] [7, 11, 17, 18, 19])
 (.seq (.seq (.region [g 58 (.faddr 1 (t 18)), g 59 (.load none (t 58)), g 60 (.load none (t 7)), g 61 (.bin (.num .eql) (t 59) (t 60))] [11, 17, 18, 19, 61])
 (.cond (t 61) (.region [g 62 (.build [(.int .i64 0), (.int .i64 0)] [(0, 1, (.const (.int .i64 1))), (1, 1, (.const (.int .i64 1)))]), ⟨none, .store 2 (t 19) (t 62), none⟩] [11, 17, 18, 19]) .skip))
 (.draw [g 63 (.load none (t 17)), g 64 (.load none (t 11)), g 65 (.nilchk (t 64)), g 66 (.faddr 2 (t 65)), g 67 (.load none (t 66)), g 68 (.faddr 1 (t 18)), g 69 (.load none (t 68)), g 70 (.iaddrS 1 (t 67) (t 69)), g 71 (.load none (t 70)), g 72 (.load (some 2) (t 19)), g 73 (.call (t 63) [(t 71), (t 72)])] [0, 1, 2, 3, 4, 5, 6, 7, 8, 9, 10] [0, 0, 2, 6, 14, 0, 32, 126, 254, 0, 1023] []))))
def asg46c : ACode := (.region [g 20 (.new [(.int .u8 0), (.int .i64 0)]), ⟨none, .store 2 (t 20) (t 77), none⟩] [11, 12, 13, 14, 17, 20])
def body46c : ACode := (.block 5 (.seq (.region [g 79 (.load none (t 11)), g 80 (.load (some 2) (t 14)), g 81 (.load (some 2) (t 20)), g 82 (.call (.func 106) [(t 79), (t 80), (t 81)]), g 78 (.mov (t 82)), g 83 (.extract (t 78) 0), g 84 (.extract (t 78) 1), g 21 (.new [(.int .i64 0), (.int .i64 0)]), g 22 (.new [(.int .i64 0), (.int .i64 0)]), ⟨none, .store 2 (t 21) (t 83), none⟩, ⟨none, .store 2 (t 22) (t 84), none⟩] [12, 13, 17, 21, 22])
 (.draw [g 85 (.load none (t 17)), g 86 (.load none (t 12)), g 87 (.load (some 2) (t 21)), g 88 (.lookup true [.i .i64, .i .i64] (.int .i64 0) false (t 86) (t 87)), g 89 (.load none (t 12)), g 90 (.load (some 2) (t 22)), g 91 (.lookup true [.i .i64, .i .i64] (.int .i64 0) false (t 89) (t 90)), g 92 (.bin (.num .add) (t 88) (t 91)), g 93 (.load none (t 13)), g 94 (.load (some 2) (t 21)), g 95 (.lookup true [.i .i64, .i .i64] (.agg #[(.int .i64 0), (.int .i64 0)]) false (t 93) (t 94)), g 96 (.field 0 none (t 95)), g 97 (.load none (t 13)), g 98 (.load (some 2) (t 22)), g 99 (.lookup true [.i .i64, .i .i64] (.agg #[(.int .i64 0), (.int .i64 0)]) false (t 97) (t 98)), g 100 (.field 0 none (t 99)), g 101 (.bin (.num .add) (t 96) (t 100)), g 102 (.load none (t 13)), g 103 (.load (some 2) (t 21)), g 104 (.lookup true [.i .i64, .i .i64] (.agg #[(.int .i64 0), (.int .i64 0)]) false (t 102) (t 103)), g 105 (.field 1 none (t 104)), g 106 (.load none (t 13)), g 107 (.load (some 2) (t 22)), g 108 (.lookup true [.i .i64, .i .i64] (.agg #[(.int .i64 0), (.int .i64 0)]) false (t 106) (t 107)), g 109 (.field 1 none (t 108)), g 110 (.bin (.num .add) (t 105) (t 109)), g 111 (.build [(.int .i64 0), (.int .i64 0)] [(0, 1, (t 101)), (1, 1, (t 110))]), g 112 (.call (t 85) [(t 92), (t 111)])] [0, 1, 2, 3, 4, 5, 6, 7, 8, 9, 10, 11, 12, 13, 14, 15, 16, 17, 18, 19, 20, 21, 22, 23, 24, 25, 26, 27] [0, 0, 0, 6, 0, 0, 48, 126, 0, 0, 768, 1792, 0, 0, 12288, 28672, 65280, 0, 0, 393216, 917504, 0, 0, 6291456, 14680064, 33423360, 67108608, 134217727] [])))
def isL : AObj → Bool
  | .loop .. => true
  | _ => false
structure AddAt (H : Heap) (p12 p14 p15 p17 mb : Nat) (u : Tab) (a b : Nat) (st : (Int × Int) × Bool) : Prop where
  g12 : H.get p12 = some (.cells [.map (some mb)] true 1)
  gm : H.get mb = some (.map (ents u))
  g14 : H.get p14 = some (.cells [.int .i64 a, .int .i64 b] true 1)
  g15 : H.get p15 = some (.cells [.int .i64 st.1.1, .int .i64 st.1.2] true 1)
  g16 : H.get (p15 + 1) = some (.cells [.bool st.2] true 1)
  g17 : H.get p17 = some (.cells [.func (.func 103) #[] #[.pointer (some ⟨p12, 0, none⟩), .pointer (some ⟨p14, 0, none⟩), .pointer (some ⟨p15 + 1, 0, none⟩), .pointer (some ⟨p15, 0, none⟩)]] true 1)
theorem AddAt.agree {H H' : Heap} {p12 p14 p15 p17 mb : Nat} {u : Tab} {a b : Nat} {st : (Int × Int) × Bool} (A : AddAt H p12 p14 p15 p17 mb u a b st) (h : ∀ z o, H.get z = some o → isL o = false → H'.get z = some o) : AddAt H' p12 p14 p15 p17 mb u a b st :=
  ⟨h _ _ A.g12 rfl, h _ _ A.gm rfl, h _ _ A.g14 rfl, h _ _ A.g15 rfl, h _ _ A.g16 rfl, h _ _ A.g17 rfl⟩
theorem AddAt.log {H : Heap} {p12 p14 p15 p17 mb : Nat} {u : Tab} {a b : Nat} {st : (Int × Int) × Bool} {m : List Nat} (A : AddAt H p12 p14 p15 p17 mb u a b st) : AddAt { H with log := m } p12 p14 p15 p17 mb u a b st := ⟨A.g12, A.gm, A.g14, A.g15, A.g16, A.g17⟩
theorem AddAt.call (hp : primAS T) (hf : T 103 = some f103) {h : Heap} (hr : Rdy h) {p12 p14 p15 p17 mb : Nat} {u : Tab} {a b : Nat} {st : (Int × Int) × Bool} (A : AddAt h p12 p14 p15 p17 mb u a b st) (w : Int) (o : Int × Int) :
    Gs T 103 [.int .i64 w, .agg #[.int .i64 o.1, .int .i64 o.2], .pointer (some ⟨p12, 0, none⟩), .pointer (some ⟨p14, 0, none⟩), .pointer (some ⟨p15 + 1, 0, none⟩), .pointer (some ⟨p15, 0, none⟩)] h (fun z => p15 ≤ z ∧ z < p15 + 2)
      fun v h' => v = .tuple #[] ∧ h'.get (p15 + 1) = some (.cells [.bool (addS (look u (a, b)) st w o).2] true 1) ∧ h'.get p15 = some (.cells [.int .i64 (addS (look u (a, b)) st w o).1.1, .int .i64 (addS (look u (a, b)) st w o).1.2] true 1) := by
  refine CW.mono (add103 hp hf hr (x := ((a : Int), (b : Int))) A.g12 A.gm A.g14 A.g16 A.g15 (by omega) (w := w) (o := o)) ?_
  rintro r h' ⟨hw, q⟩
  exact ⟨⟨hw.next, fun z hz => (hw.log z hz).imp id fun e => by omega, fun z hz hn => hw.old z hz (fun e => hn (by omega)), hw.wf⟩, q⟩
def leafO (ws : List Int) (kind : Int) (x : Nat × Nat) : Int × (Int × Int) := (ws.getD x.2 0, if (x.2 : Int) = kind then (1, 1) else (0, 0))
set_option maxHeartbeats 4000000 in
theorem leaf_add (hp : primAS T) (hf : T 103 = some f103) {H : Heap} (hr : Rdy H) {p7 p11 p12 p14 p15 p17 bb mb l2 n wc a b : Nat} {kind : Int} {x12 x13 x14 x15 fv s1 s2 : Value} {wa : Option Addr} {own : Bool} {ws : List Int} {u : Tab} {st : (Int × Int) × Bool} {x : Nat × Nat} (hx : x.2 < n)
    (gl : H.get l2 = some (.loop [(7, .pointer (some ⟨p7, 0, none⟩)), (11, .pointer (some ⟨p11, 0, none⟩)), (12, x12), (13, x13), (14, x14), (15, x15), (17, .pointer (some ⟨p17, 0, none⟩)), (55, fv)] [56] asg46b body46b 0 .normal))
    (g7 : H.get p7 = some (.cells [.int .i64 kind] true 1)) (g11 : H.get p11 = some (.cells [.pointer (some ⟨bb, 0, none⟩)] true 1)) (gb : H.get bb = some (.cells [s1, s2, .slice wa n wc] own 1)) (hws : SliceOf H 1 (.slice wa n wc) n (ints ws)) (A : AddAt H p12 p14 p15 p17 mb u a b st) :
    FW T (.yield l2) [nodeV x] H fun r H' => r = .ret (.bool true) ∧ (∀ z ∈ H'.log, p15 ≤ z ∧ z < p15 + 2) ∧ (∀ z, z < H.next → ¬ (p15 ≤ z ∧ z < p15 + 2) → H'.get z = H.get z) ∧
      H'.get (p15 + 1) = some (.cells [.bool (addS (look u (a, b)) st (leafO ws kind x).1 (leafO ws kind x).2).2] true 1) ∧ H'.get p15 = some (.cells [.int .i64 (addS (look u (a, b)) st (leafO ws kind x).1 (leafO ws kind x).2).1.1, .int .i64 (addS (look u (a, b)) st (leafO ws kind x).1 (leafO ws kind x).2).1.2] true 1) := by
  have hlen : ws.length = n := by have := hws.len; simp [ints] at this; omega
  rcases hws.inv with ⟨_, _, h0, _⟩ | ⟨b0, o0, cap, hv, s, hcap⟩
  · omega
  cases hv
  obtain ⟨vs, own', t0, g5, g6⟩ := slice_elem1 s (ints_get (l := ws) (i := x.2) (by omega))
  clear s
  have n1 := ne_loop g7 gl
  have n2 := ne_loop g11 gl
  have n3 := ne_loop gb gl
  have n4 := ne_loop g5 gl
  have n5 := ne_loop A.g12 gl
  have n6 := ne_loop A.g14 gl
  have n7 := ne_loop A.g15 gl
  have n8 := ne_loop A.g16 gl
  have n9 := ne_loop A.g17 gl
  have nm := ne_map A.gm gl
  have k1 := WF.get_lt hr.wf g7
  have k2 := WF.get_lt hr.wf g11
  have k3 := WF.get_lt hr.wf gb
  have k4 := WF.get_lt hr.wf g5
  have kl := WF.get_lt hr.wf gl
  have k5 := WF.get_lt hr.wf A.g12
  have k6 := WF.get_lt hr.wf A.g14
  have k7 := WF.get_lt hr.wf A.g15
  have k8 := WF.get_lt hr.wf A.g16
  have k9 := WF.get_lt hr.wf A.g17
  have km := WF.get_lt hr.wf A.gm
  have g17 := A.g17
  refine FW.mono' (FW.yieldN hp (lo := p15) (N := p15 + 2) (R := fun H' => (∀ z, z < H.next → ¬ (p15 ≤ z ∧ z < p15 + 2) → H'.get z = H.get z) ∧ H'.get (p15 + 1) = some (.cells [.bool (addS (look u (a, b)) st (leafO ws kind x).1 (leafO ws kind x).2).2] true 1) ∧ H'.get p15 = some (.cells [.int .i64 (addS (look u (a, b)) st (leafO ws kind x).1 (leafO ws kind x).2).1.1, .int .i64 (addS (look u (a, b)) st (leafO ws kind x).1 (leafO ws kind x).2).1.2] true 1)) gl rfl kl ?_) fun r H' q => q
  have fin : ∀ (E : Heap) (w : Int) (o : Int × Int) (lg : List Nat) (h' : Heap), (∀ z, z < H.next → z ≠ l2 → E.get z = H.get z) → E.get l2 = some (.loop [(7, .pointer (some ⟨p7, 0, none⟩)), (11, .pointer (some ⟨p11, 0, none⟩)), (12, x12), (13, x13), (14, x14), (15, x15), (17, .pointer (some ⟨p17, 0, none⟩)), (55, fv)] [56] asg46b body46b 1 .normal) → E.log = [] → H.next ≤ E.next → Ws (fun z => p15 ≤ z ∧ z < p15 + 2) E h' →
      h'.get (p15 + 1) = some (.cells [.bool (addS (look u (a, b)) st w o).2] true 1) ∧ h'.get p15 = some (.cells [.int .i64 (addS (look u (a, b)) st w o).1.1, .int .i64 (addS (look u (a, b)) st w o).1.2] true 1) → (w, o) = leafO ws kind x →
      ∀ e ds, YQ l2 (.loop [(7, .pointer (some ⟨p7, 0, none⟩)), (11, .pointer (some ⟨p11, 0, none⟩)), (12, x12), (13, x13), (14, x14), (15, x15), (17, .pointer (some ⟨p17, 0, none⟩)), (55, fv)] [56] asg46b body46b 0 .normal) p15 (p15 + 2) H.next (fun H' => (∀ z, z < H.next → ¬ (p15 ≤ z ∧ z < p15 + 2) → H'.get z = H.get z) ∧ H'.get (p15 + 1) = some (.cells [.bool (addS (look u (a, b)) st (leafO ws kind x).1 (leafO ws kind x).2).2] true 1) ∧ H'.get p15 = some (.cells [.int .i64 (addS (look u (a, b)) st (leafO ws kind x).1 (leafO ws kind x).2).1.1, .int .i64 (addS (look u (a, b)) st (leafO ws kind x).1 (leafO ws kind x).2).1.2] true 1)) .normal e ds h' := by
    intro E w o lg h' hE hEl hlog hn hw hq hwo e ds
    rw [← hwo]
    refine ⟨rfl, ⟨_, (hw.old l2 (by omega) (by omega)).trans hEl, rfl⟩, fun z hz => ?_, fun h5 hn5 hag hl5 => ⟨fun z hz hne => ?_, (hag _ k8 n8).trans hq.1, (hag _ k7 n7).trans hq.2⟩⟩
    · rcases hw.log z hz with q | q
      · rw [hlog] at q; cases q
      · exact q
    · by_cases hz2 : z = l2
      · rw [hz2]; exact hl5.trans gl.symm
      · exact (hag z hz hz2).trans ((hw.old z (by omega) hne).trans (hE z hz hz2))
  unfold asg46b nodeV
  refine wE_region ?_; refine wO_val a_new ?_; refine yS ?_; refine wO_nil ?_
  refine y1 ?_
  refine ⟨rfl, by (simp (disch := first | omega | (simp only [z1, z2]; omega)) only [z3, z4, z5, z6, z7, z1, z2, *]; exact rfl), ?_⟩
  unfold body46b
  by_cases hk : ¬ (x.2 : Int) ≠ kind
  · refine wE_block ?_; refine y4 ?_; refine wO_val (a_build (by exact rfl)) ?_; refine wO_val a_new ?_
    refine yS ?_; refine y3 ?_; refine wE_seq ?_; refine y4 ?_; refine yF ?_
    refine yL ?_
    refine yL ?_; refine yt ?_; refine y3 ?_; refine yY ?_; refine wE_region ?_; refine wO_val (a_build (by exact rfl)) ?_
    refine yS ?_; refine y3 ?_; refine wE_draw ?_
    refine qL ?_
    refine qL ?_
    refine wD_quiet rfl rfl rfl (by exact rfl) (by exact rfl) (by exact rfl) (a_nilchk (by exact rfl)) ?_; refine qF ?_
    refine qL ?_
    refine qF ?_
    refine qL ?_
    refine wD_quiet rfl rfl rfl (by exact rfl) (by exact rfl) (by exact rfl) (a_iaddrS (by exact rfl) (by exact rfl) (by omega)) ?_
    refine wD_quiet rfl rfl rfl (by exact rfl) (by exact rfl) (by exact rfl) (a_load (by exact rfl) (by (simp (disch := first | omega | (simp only [z1, z2]; omega)) only [z3, z4, z5, z6, z7, z1, z2, *]; exact rfl)) (by assumption)) ?_
    refine qN ?_
    refine WD.gen ?_
    intro hA hAe
    have A1 : ∀ z, z < H.next → z ≠ l2 → hA.get z = H.get z := fun z hz hne => by rw [hAe]; simp (disch := first | omega | (simp only [z1, z2]; omega)) only [z5, z4]
    have A2 : hA.get l2 = some (.loop [(7, .pointer (some ⟨p7, 0, none⟩)), (11, .pointer (some ⟨p11, 0, none⟩)), (12, x12), (13, x13), (14, x14), (15, x15), (17, .pointer (some ⟨p17, 0, none⟩)), (55, fv)] [56] asg46b body46b 1 .normal) := by rw [hAe]; (simp (disch := first | omega | (simp only [z1, z2]; omega)) only [z3, z4, z5, z6, z7, z1, z2, *]; exact rfl)
    have A5 : hA.next = H.next + 2 := by rw [hAe]; rfl
    have A6 : hA.log = [] := by rw [hAe]; simp (disch := first | omega | (simp only [z1, z2]; omega)) only [Heap.log_wr_new, Heap.log_push]; exact hr.log
    have A7 : WF hA := by rw [hAe]; exact (((((((hr.wf.push _).as (AS.wr _ _ _ _)).as (AS.wr _ _ _ _)).push _).as (AS.wr _ _ _ _)).as (AS.wr _ _ _ _)))
    have A8 : AddAt hA p12 p14 p15 p17 mb u a b st := A.agree fun z o hz ho => (A1 z (WF.get_lt hr.wf hz) (fun e => by rw [e, gl] at hz; cases hz; cases ho)).trans hz
    clear hAe
    refine qC ?_
    refine FW.gsD (A8.log.call hp hf (.of A7) (ws.getD x.2 0) (1, 1)) (fun _ _ _ q => q) ?_
    rintro _ h' lg hw hlg ⟨rfl, q⟩
    refine ⟨_, by apply ra_dropC rfl; apply ra_dropC rfl; apply ra_dropC rfl; apply ra_dropC rfl; apply ra_dropC rfl; apply ra_dropC rfl; apply ra_dropC rfl; apply ra_dropC rfl; apply ra_dropC rfl; apply ra_dropC rfl; exact ra_nil, ?_⟩
    refine wD_nil ?_; refine y1 ?_; refine kB_n ?_
    exact fin hA (ws.getD x.2 0) (1, 1) lg h' A1 A2 A6 (by omega) hw q (by unfold leafO; rw [if_pos (by omega)]) _ _
  · refine wE_block ?_; refine y4 ?_; refine wO_val (a_build (by exact rfl)) ?_; refine wO_val a_new ?_
    refine yS ?_; refine y3 ?_; refine wE_seq ?_; refine y4 ?_; refine yF ?_
    refine yL ?_
    refine yL ?_; refine yf ?_; refine y3 ?_; refine yX ?_; refine wE_skip ?_; refine kS_n ?_; refine wE_draw ?_
    refine qL ?_
    refine qL ?_
    refine wD_quiet rfl rfl rfl (by exact rfl) (by exact rfl) (by exact rfl) (a_nilchk (by exact rfl)) ?_; refine qF ?_
    refine qL ?_
    refine qF ?_
    refine qL ?_
    refine wD_quiet rfl rfl rfl (by exact rfl) (by exact rfl) (by exact rfl) (a_iaddrS (by exact rfl) (by exact rfl) (by omega)) ?_
    refine wD_quiet rfl rfl rfl (by exact rfl) (by exact rfl) (by exact rfl) (a_load (by exact rfl) (by (simp (disch := first | omega | (simp only [z1, z2]; omega)) only [z3, z4, z5, z6, z7, z1, z2, *]; exact rfl)) (by assumption)) ?_
    refine qN ?_
    refine WD.gen ?_
    intro hA hAe
    have A1 : ∀ z, z < H.next → z ≠ l2 → hA.get z = H.get z := fun z hz hne => by rw [hAe]; simp (disch := first | omega | (simp only [z1, z2]; omega)) only [z5, z4]
    have A2 : hA.get l2 = some (.loop [(7, .pointer (some ⟨p7, 0, none⟩)), (11, .pointer (some ⟨p11, 0, none⟩)), (12, x12), (13, x13), (14, x14), (15, x15), (17, .pointer (some ⟨p17, 0, none⟩)), (55, fv)] [56] asg46b body46b 1 .normal) := by rw [hAe]; (simp (disch := first | omega | (simp only [z1, z2]; omega)) only [z3, z4, z5, z6, z7, z1, z2, *]; exact rfl)
    have A5 : hA.next = H.next + 2 := by rw [hAe]; rfl
    have A6 : hA.log = [] := by rw [hAe]; simp (disch := first | omega | (simp only [z1, z2]; omega)) only [Heap.log_wr_new, Heap.log_push]; exact hr.log
    have A7 : WF hA := by rw [hAe]; exact ((((((hr.wf.push _).as (AS.wr _ _ _ _)).as (AS.wr _ _ _ _)).push _).as (AS.wr _ _ _ _)))
    have A8 : AddAt hA p12 p14 p15 p17 mb u a b st := A.agree fun z o hz ho => (A1 z (WF.get_lt hr.wf hz) (fun e => by rw [e, gl] at hz; cases hz; cases ho)).trans hz
    clear hAe
    refine qC ?_
    refine FW.gsD (A8.log.call hp hf (.of A7) (ws.getD x.2 0) (0, 0)) (fun _ _ _ q => q) ?_
    rintro _ h' lg hw hlg ⟨rfl, q⟩
    refine ⟨_, by apply ra_dropC rfl; apply ra_dropC rfl; apply ra_dropC rfl; apply ra_dropC rfl; apply ra_dropC rfl; apply ra_dropC rfl; apply ra_dropC rfl; apply ra_dropC rfl; apply ra_dropC rfl; apply ra_dropC rfl; exact ra_nil, ?_⟩
    refine wD_nil ?_; refine y1 ?_; refine kB_n ?_
    exact fin hA (ws.getD x.2 0) (0, 0) lg h' A1 A2 A6 (by omega) hw q (by unfold leafO; rw [if_neg (by omega)]) _ _
end Go.A.Pk
end
section
set_option maxRecDepth 100000
namespace Go.A.Pk
variable {T : Nat → Option AFunc}
def oV (p : Int × Int) : Value := .agg #[.int .i64 p.1, .int .i64 p.2]
abbrev TabO := TabG (Int × Int)
def cutO (kerf : Int) (u : Tab) (t : TabO) (a b : Nat) (x : Nat × Nat) : Int × (Int × Int) :=
  (look u (oneB x a b) + look u (twoB kerf x a b), ((lookG (0, 0) t (oneB x a b)).1 + (lookG (0, 0) t (twoB kerf x a b)).1, (lookG (0, 0) t (oneB x a b)).2 + (lookG (0, 0) t (twoB kerf x a b)).2))
def CutOk (kerf : Int) (u : Tab) (t : TabO) (a b : Nat) (x : Nat × Nat) : Prop :=
  (-4611686018427387904 ≤ look u (oneB x a b) + look u (twoB kerf x a b) ∧ look u (oneB x a b) + look u (twoB kerf x a b) ≤ 4611686018427387904) ∧
  (-4611686018427387904 ≤ (lookG (0, 0) t (oneB x a b)).1 + (lookG (0, 0) t (twoB kerf x a b)).1 ∧ (lookG (0, 0) t (oneB x a b)).1 + (lookG (0, 0) t (twoB kerf x a b)).1 ≤ 4611686018427387904) ∧
  (-4611686018427387904 ≤ (lookG (0, 0) t (oneB x a b)).2 + (lookG (0, 0) t (twoB kerf x a b)).2 ∧ (lookG (0, 0) t (oneB x a b)).2 + (lookG (0, 0) t (twoB kerf x a b)).2 ≤ 4611686018427387904)
set_option maxHeartbeats 8000000 in
theorem cut_add (hp : primAS T) (hf : T 103 = some f103) (f106 : T 106 = some f106) {H : Heap} (hr : Rdy H) {p11 p12 p13 p14 p15 p17 bb mb mo l2 a b : Nat} {kerf : Int} {x15 fv s1 s2 : Value} {own : Bool} {u : Tab} {t : TabO} {st : (Int × Int) × Bool} {x : Nat × Nat} (hx : x.1 = 3 ∨ x.1 = 4) (hx2 : x.2 < 1000) (ha : a < 1000) (hb : b < 1000) (hk : 0 ≤ kerf ∧ kerf ≤ 100) (hsum : CutOk kerf u t a b x)
    (gl : H.get l2 = some (.loop [(11, .pointer (some ⟨p11, 0, none⟩)), (12, .pointer (some ⟨p12, 0, none⟩)), (13, .pointer (some ⟨p13, 0, none⟩)), (14, .pointer (some ⟨p14, 0, none⟩)), (15, x15), (17, .pointer (some ⟨p17, 0, none⟩)), (76, fv)] [77] asg46c body46c 0 .normal))
    (g11 : H.get p11 = some (.cells [.pointer (some ⟨bb, 0, none⟩)] true 1)) (gb : H.get bb = some (.cells [s1, .int .i64 kerf, s2] own 1)) (g13 : H.get p13 = some (.cells [.map (some mo)] true 1)) (go : H.get mo = some (.map (entsG oV t))) (A : AddAt H p12 p14 p15 p17 mb u a b st) :
    FW T (.yield l2) [nodeV x] H fun r H' => r = .ret (.bool true) ∧ (∀ z ∈ H'.log, p15 ≤ z ∧ z < p15 + 2) ∧ (∀ z, z < H.next → ¬ (p15 ≤ z ∧ z < p15 + 2) → H'.get z = H.get z) ∧ H'.get (p15 + 1) = some (.cells [.bool (addS (look u (a, b)) st (cutO kerf u t a b x).1 (cutO kerf u t a b x).2).2] true 1) ∧ H'.get p15 = some (.cells [.int .i64 (addS (look u (a, b)) st (cutO kerf u t a b x).1 (cutO kerf u t a b x).2).1.1, .int .i64 (addS (look u (a, b)) st (cutO kerf u t a b x).1 (cutO kerf u t a b x).2).1.2] true 1) := by
  have n2 := ne_loop g11 gl
  have n3 := ne_loop gb gl
  have n4 := ne_loop g13 gl
  have n10 := ne_map go gl
  have n5 := ne_loop A.g12 gl
  have n6 := ne_loop A.g14 gl
  have n7 := ne_loop A.g15 gl
  have n8 := ne_loop A.g16 gl
  have n9 := ne_loop A.g17 gl
  have nm := ne_map A.gm gl
  have k2 := WF.get_lt hr.wf g11
  have k3 := WF.get_lt hr.wf gb
  have k4 := WF.get_lt hr.wf g13
  have k10 := WF.get_lt hr.wf go
  have kl := WF.get_lt hr.wf gl
  have k5 := WF.get_lt hr.wf A.g12
  have k6 := WF.get_lt hr.wf A.g14
  have k7 := WF.get_lt hr.wf A.g15
  have k8 := WF.get_lt hr.wf A.g16
  have k9 := WF.get_lt hr.wf A.g17
  have km := WF.get_lt hr.wf A.gm
  have g17 := A.g17
  have g12 := A.g12
  have g14 := A.g14
  have gm := A.gm
  obtain ⟨hs1, hs2, hs3⟩ := hsum
  refine FW.mono' (FW.yieldN hp (lo := p15) (N := p15 + 2) (R := fun H' => (∀ z, z < H.next → ¬ (p15 ≤ z ∧ z < p15 + 2) → H'.get z = H.get z) ∧ H'.get (p15 + 1) = some (.cells [.bool (addS (look u (a, b)) st (cutO kerf u t a b x).1 (cutO kerf u t a b x).2).2] true 1) ∧ H'.get p15 = some (.cells [.int .i64 (addS (look u (a, b)) st (cutO kerf u t a b x).1 (cutO kerf u t a b x).2).1.1, .int .i64 (addS (look u (a, b)) st (cutO kerf u t a b x).1 (cutO kerf u t a b x).2).1.2] true 1)) gl rfl kl ?_) fun r H' q => q
  unfold asg46c nodeV
  refine wE_region ?_; refine wO_val a_new ?_; refine yS ?_; refine wO_nil ?_
  refine y1 ?_
  refine ⟨rfl, by (simp (disch := first | omega | (simp only [z1, z2]; omega)) only [z3, z4, z5, z6, z7, z1, z2, *]; exact rfl), ?_⟩
  unfold body46c
  refine wE_block ?_; refine y4 ?_; refine yL ?_
  refine yN ?_
  refine yN ?_
  refine WO.gen ?_
  intro hA hAe
  have A1 : ∀ z, z < H.next → z ≠ l2 → hA.get z = H.get z := fun z hz hne => by rw [hAe]; simp (disch := first | omega | (simp only [z1, z2]; omega)) only [z5, z4]
  have A2 : hA.get l2 = some (.loop [(11, .pointer (some ⟨p11, 0, none⟩)), (12, .pointer (some ⟨p12, 0, none⟩)), (13, .pointer (some ⟨p13, 0, none⟩)), (14, .pointer (some ⟨p14, 0, none⟩)), (15, x15), (17, .pointer (some ⟨p17, 0, none⟩)), (76, fv)] [77] asg46c body46c 1 .normal) := by rw [hAe]; (simp (disch := first | omega | (simp only [z1, z2]; omega)) only [z3, z4, z5, z6, z7, z1, z2, *]; exact rfl)
  have A5 : hA.next = H.next + 1 := by rw [hAe]; rfl
  have A6 : hA.log = [] := by rw [hAe]; simp (disch := first | omega | (simp only [z1, z2]; omega)) only [Heap.log_wr_new, Heap.log_push]; exact hr.log
  have A7 : WF hA := by rw [hAe]; exact (((hr.wf.push _).as (AS.wr _ _ _ _)).as (AS.wr _ _ _ _))
  clear hAe
  have B11 := (A1 _ k2 n2).trans g11
  have Bb := (A1 _ k3 n3).trans gb
  have B13 := (A1 _ k4 n4).trans g13
  have Bo := (A1 _ k10 n10).trans go
  have B17 := (A1 _ k9 n9).trans g17
  have B12 := (A1 _ k5 n5).trans g12
  have B14 := (A1 _ k6 n6).trans g14
  have Bm := (A1 _ km nm).trans gm
  have A8 : AddAt hA p12 p14 p15 p17 mb u a b st := A.agree fun z o hz ho => (A1 z (WF.get_lt hr.wf hz) (fun e => by rw [e, gl] at hz; cases hz; cases ho)).trans hz
  refine yC ?_
  refine FW.pu (split106 hp f106 (.of A7) Bb (by show bb < hA.next; omega) hk hx hx2 ha hb) ?_
  refine yM ?_; refine yE ?_; refine yE ?_; refine wO_val a_new ?_; refine wO_val a_new ?_
  refine yS ?_
  refine yS ?_; refine y3 ?_; refine wE_draw ?_
  refine qL ?_
  refine qL ?_
  refine qN ?_
  refine wD_quiet rfl rfl rfl (by exact rfl) (by exact rfl) (by exact rfl) (a_lookup (x := oneB x a b) (by exact rfl) (by exact rfl) (by (simp (disch := first | omega | (simp only [z1, z2]; omega)) only [z3, z4, z5, z6, z7, z1, z2, *]; exact rfl))) ?_
  refine qL ?_
  refine qN ?_
  refine wD_quiet rfl rfl rfl (by exact rfl) (by exact rfl) (by exact rfl) (a_lookup (x := twoB kerf x a b) (by exact rfl) (by exact rfl) (by (simp (disch := first | omega | (simp only [z1, z2]; omega)) only [z3, z4, z5, z6, z7, z1, z2, *]; exact rfl))) ?_
  refine wD_quiet rfl rfl rfl (by exact rfl) (by exact rfl) (by exact rfl) (a_num (by exact rfl) (by exact rfl) (by exact m_add (wrapA_i64 (by omega) (by omega)))) ?_
  refine qL ?_
  refine qN ?_
  refine wD_quiet rfl rfl rfl (by exact rfl) (by exact rfl) (by exact rfl) (a_lookupG oV (0, 0) (x := oneB x a b) (by exact rfl) (by exact rfl) (by (simp (disch := first | omega | (simp only [z1, z2]; omega)) only [z3, z4, z5, z6, z7, z1, z2, *]; exact rfl)) rfl) ?_
  refine wD_quiet rfl rfl rfl (by exact rfl) (by exact rfl) (by exact rfl) (a_field (by exact rfl) (by exact rfl)) ?_
  refine qL ?_
  refine qN ?_
  refine wD_quiet rfl rfl rfl (by exact rfl) (by exact rfl) (by exact rfl) (a_lookupG oV (0, 0) (x := twoB kerf x a b) (by exact rfl) (by exact rfl) (by (simp (disch := first | omega | (simp only [z1, z2]; omega)) only [z3, z4, z5, z6, z7, z1, z2, *]; exact rfl)) rfl) ?_
  refine wD_quiet rfl rfl rfl (by exact rfl) (by exact rfl) (by exact rfl) (a_field (by exact rfl) (by exact rfl)) ?_; refine wD_quiet rfl rfl rfl (by exact rfl) (by exact rfl) (by exact rfl) (a_num (by exact rfl) (by exact rfl) (by exact m_add (wrapA_i64 (by omega) (by omega)))) ?_
  refine qL ?_
  refine qN ?_
  refine wD_quiet rfl rfl rfl (by exact rfl) (by exact rfl) (by exact rfl) (a_lookupG oV (0, 0) (x := oneB x a b) (by exact rfl) (by exact rfl) (by (simp (disch := first | omega | (simp only [z1, z2]; omega)) only [z3, z4, z5, z6, z7, z1, z2, *]; exact rfl)) rfl) ?_
  refine wD_quiet rfl rfl rfl (by exact rfl) (by exact rfl) (by exact rfl) (a_field (by exact rfl) (by exact rfl)) ?_
  refine qL ?_
  refine qN ?_
  refine wD_quiet rfl rfl rfl (by exact rfl) (by exact rfl) (by exact rfl) (a_lookupG oV (0, 0) (x := twoB kerf x a b) (by exact rfl) (by exact rfl) (by (simp (disch := first | omega | (simp only [z1, z2]; omega)) only [z3, z4, z5, z6, z7, z1, z2, *]; exact rfl)) rfl) ?_
  refine wD_quiet rfl rfl rfl (by exact rfl) (by exact rfl) (by exact rfl) (a_field (by exact rfl) (by exact rfl)) ?_; refine wD_quiet rfl rfl rfl (by exact rfl) (by exact rfl) (by exact rfl) (a_num (by exact rfl) (by exact rfl) (by exact m_add (wrapA_i64 (by omega) (by omega)))) ?_; refine wD_quiet rfl rfl rfl (by exact rfl) (by exact rfl) (by exact rfl) (a_build (by exact rfl)) ?_
  refine WD.gen ?_
  intro hB hBe
  have C1 : ∀ z, z < hA.next → hB.get z = hA.get z := fun z hz => by rw [hBe]; simp (disch := first | omega | (simp only [z1, z2]; omega)) only [z5, z4]
  have C5 : hB.next = hA.next + 2 := by rw [hBe]; rfl
  have C6 : hB.log = [] := by rw [hBe]; simp (disch := first | omega | (simp only [z1, z2]; omega)) only [Heap.log_wr_new, Heap.log_push]; exact A6
  have C7 : WF hB := by rw [hBe]; exact ((((A7.push _).push _).as (AS.wr _ _ _ _)).as (AS.wr _ _ _ _))
  have C8 : AddAt hB p12 p14 p15 p17 mb u a b st := A8.agree fun z o hz ho => (C1 z (WF.get_lt A7 hz)).trans hz
  clear hBe
  refine qC ?_
  refine FW.gsD (C8.log.call hp hf (.of C7) (look u (oneB x a b) + look u (twoB kerf x a b)) ((lookG (0, 0) t (oneB x a b)).1 + (lookG (0, 0) t (twoB kerf x a b)).1, (lookG (0, 0) t (oneB x a b)).2 + (lookG (0, 0) t (twoB kerf x a b)).2)) (fun _ _ _ q => q) ?_
  rintro _ h' lg hw hlg ⟨rfl, q⟩
  refine ⟨_, by apply ra_dropC rfl; apply ra_dropC rfl; apply ra_dropC rfl; apply ra_dropC rfl; apply ra_dropC rfl; apply ra_dropC rfl; apply ra_dropC rfl; apply ra_dropC rfl; apply ra_dropC rfl; apply ra_dropC rfl; apply ra_dropC rfl; apply ra_dropC rfl; apply ra_dropC rfl; apply ra_dropC rfl; apply ra_dropC rfl; apply ra_dropC rfl; apply ra_dropC rfl; apply ra_dropC rfl; apply ra_dropC rfl; apply ra_dropC rfl; apply ra_dropC rfl; apply ra_dropC rfl; apply ra_dropC rfl; apply ra_dropC rfl; apply ra_dropC rfl; apply ra_dropC rfl; apply ra_dropC rfl; exact ra_nil, ?_⟩
  refine wD_nil ?_; refine y1 ?_; refine kB_n ?_
  refine ⟨rfl, ⟨_, (hw.old l2 (by omega) (by omega)).trans ((C1 l2 (by omega)).trans A2), rfl⟩, fun z hz => ?_, fun h5 hn5 hag hl5 => ⟨fun z hz hne => ?_, (hag _ k8 n8).trans q.1, (hag _ k7 n7).trans q.2⟩⟩
  · rcases hw.log z hz with q | q
    · rw [C6] at q; cases q
    · exact q
  · by_cases hz2 : z = l2
    · rw [hz2]; exact hl5.trans gl.symm
    · exact (hag z hz hz2).trans ((hw.old z (by omega) hne).trans ((C1 z (by omega)).trans (A1 z hz hz2)))
end Go.A.Pk
end
section
set_option maxRecDepth 100000
namespace Go.A.Pk
variable {T : Nat → Option AFunc}
theorem FW.gs0 {base : Nat} {Q : XQ} {e : Env} {ds : Dfs} {h : Heap} {f : Nat} {args : List Value} {S : Nat → Prop} {Q' : Value → Heap → Prop} {K : Env → Dfs → Heap → Prop} {dst : Option Nat} (H : Gs T f args { h with log := [] } S Q') (hlog : ∀ v (h' : Heap) l, Q' v h' → Q' v { h' with log := l }) (hS : ∀ z, S z → base ≤ z) (hK : ∀ v h', h.next ≤ h'.next → h'.log = h.log → (∀ z, z < h.next → ¬ S z → h'.get z = h.get z) → (WF h → WF h') → Q' v h' → K (dstE e dst v) ds h') :
    FW T (.func f) args { h with log := [] } (KO K Q base dst e ds h.log) := by
  refine .func (CW.mono H ?_)
  rintro r h2 ⟨hx, v, rfl, hq⟩
  exact ⟨hK v _ hx.next (mergeLog_ge fun z hz => hS z ((hx.log z hz).elim (fun q => by cases q) id)) hx.old (fun w => (hx.wf (w.log [])).log _) (hlog v h2 _ hq)⟩
def addL (b : Int) (f : Nat × Nat → Int × (Int × Int)) (xs : List (Nat × Nat)) (st : (Int × Int) × Bool) : (Int × Int) × Bool := xs.foldl (fun st x => addS b st (f x).1 (f x).2) st
theorem addL_snoc (b : Int) (f : Nat × Nat → Int × (Int × Int)) (xs : List (Nat × Nat)) (x : Nat × Nat) (st : (Int × Int) × Bool) : addL b f (xs ++ [x]) st = addS b (addL b f xs st) (f x).1 (f x).2 := by simp [addL]
def oftenS (kerf : Int) (ws : List Int) (kl : List Kd) (kind : Int) (u : Tab) (t : TabO) (a b : Nat) : (Int × Int) × Bool :=
  addL (look u (a, b)) (cutO kerf u t a b) (cutsL a b) (addL (look u (a, b)) (leafO ws kind) (leavesL a b kl 0) (addS (look u (a, b)) ((0, 0), false) 0 (0, 0)))
structure FnsO2 (T : Nat → Option AFunc) : Prop extends FnsV T where
  f103 : T 103 = some f103
set_option maxHeartbeats 16000000 in
theorem often_round (F : FnsO2 T) {H : Heap} (hr : Rdy H) {p7 p11 p12 p13 mb mo bb l n c wc a b : Nat} {sa wa : Option Addr} {v1 v2 fv : Value} {kerf kind : Int} {ws : List Int} {kl : List Kd} {u : Tab} {t : TabO} (ha : a < 1000) (hb : b < 1000) (hn : n < 1000) (hk : 0 ≤ kerf ∧ kerf ≤ 100)
    (hsum : ∀ x ∈ cutsL a b, CutOk kerf u t a b x) (gl : H.get l = some (.loop [(1, v1), (2, v2), (7, .pointer (some ⟨p7, 0, none⟩)), (11, .pointer (some ⟨p11, 0, none⟩)), (12, .pointer (some ⟨p12, 0, none⟩)), (13, .pointer (some ⟨p13, 0, none⟩)), (46, fv)] [47] asg46a body46a 0 .normal))
    (g7 : H.get p7 = some (.cells [.int .i64 kind] true 1)) (g11 : H.get p11 = some (.cells [.pointer (some ⟨bb, 0, none⟩)] true 1)) (g12 : H.get p12 = some (.cells [.map (some mb)] true 1)) (g13 : H.get p13 = some (.cells [.map (some mo)] true 1)) (gu : H.get mb = some (.map (ents u))) (go : H.get mo = some (.map (entsG oV t))) (gb : H.get bb = some (.cells [.slice sa n c, .int .i64 kerf, .slice wa n wc] true 1)) (hks : SliceOf H 5 (.slice sa n c) n (kcs kl)) (hws : SliceOf H 1 (.slice wa n wc) n (ints ws)) (hmm : mb ≠ mo) :
    FW T (.yield l) [boardV (a, b)] H fun r H' => r = .ret (.bool true) ∧ (∀ z ∈ H'.log, mo ≤ z ∧ z < mo + 1) ∧ (∀ z, z < H.next → z ≠ mo → H'.get z = H.get z) ∧ H'.get mo = some (.map (entsG oV (updG t (a, b) (oftenS kerf ws kl kind u t a b).1))) := by
  have n7 := ne_loop g7 gl
  have n11 := ne_loop g11 gl
  have n12 := ne_loop g12 gl
  have n13 := ne_loop g13 gl
  have nb := ne_loop gb gl
  have nu := ne_map gu gl
  have no := ne_map go gl
  have m7 := ne_cm g7 go
  have m11 := ne_cm g11 go
  have m12 := ne_cm g12 go
  have m13 := ne_cm g13 go
  have mB := ne_cm gb go
  have k7 := WF.get_lt hr.wf g7
  have k11 := WF.get_lt hr.wf g11
  have k12 := WF.get_lt hr.wf g12
  have k13 := WF.get_lt hr.wf g13
  have kb := WF.get_lt hr.wf gb
  have ku := WF.get_lt hr.wf gu
  have ko := WF.get_lt hr.wf go
  have kl' := WF.get_lt hr.wf gl
  refine FW.yieldN F.p (R := fun H' => (∀ z, z < H.next → z ≠ mo → H'.get z = H.get z) ∧ H'.get mo = some (.map (entsG oV (updG t (a, b) (oftenS kerf ws kl kind u t a b).1)))) gl rfl kl' ?_
  unfold asg46a
  refine wE_region ?_; refine wO_val a_new ?_; refine yS ?_; refine wO_nil ?_
  refine y1 ?_
  refine ⟨rfl, by (simp (disch := first | omega | (simp only [z1, z2]; omega)) only [z3, z4, z5, z6, z7, z1, z2, *]; exact rfl), ?_⟩
  unfold body46a
  refine wE_block ?_; refine y4 ?_; refine wO_val (a_build (by exact rfl)) ?_; refine wO_val a_new ?_; refine wO_val a_new ?_
  refine yS ?_
  refine yS ?_; refine y3 ?_; refine y4 ?_; refine wO_val (a_mkFunc (by exact rfl) (by exact rfl)) ?_; refine wO_val a_new ?_
  refine yS ?_; refine y3 ?_; refine y4 ?_
  refine yL ?_; refine wO_val (a_build (by exact rfl)) ?_
  refine WO.gen ?_
  intro hA hAe
  have A1 : ∀ z, z < H.next → z ≠ l → hA.get z = H.get z := fun z hz hne => by rw [hAe]; simp (disch := first | omega | (simp only [z1, z2]; omega)) only [z5, z4]
  have A2 : hA.get l = some (.loop [(1, v1), (2, v2), (7, .pointer (some ⟨p7, 0, none⟩)), (11, .pointer (some ⟨p11, 0, none⟩)), (12, .pointer (some ⟨p12, 0, none⟩)), (13, .pointer (some ⟨p13, 0, none⟩)), (46, fv)] [47] asg46a body46a 1 .normal) := by rw [hAe]; (simp (disch := first | omega | (simp only [z1, z2]; omega)) only [z3, z4, z5, z6, z7, z1, z2, *]; exact rfl)
  have A14 : hA.get H.next = some (.cells [.int .i64 a, .int .i64 b] true 1) := by rw [hAe]; (simp (disch := first | omega | (simp only [z1, z2]; omega)) only [z3, z4, z5, z6, z7, z1, z2, *]; exact rfl)
  have A15 : hA.get (H.next + 1) = some (.cells [.int .i64 0, .int .i64 0] true 1) := by rw [hAe]; (simp (disch := first | omega | (simp only [z1, z2]; omega) | (simp only [z1, z2]; done) | fail) only [z8, z4, z5, z9, z7, z1, z2, *]; exact rfl)
  have A16 : hA.get (H.next + 2) = some (.cells [.bool false] true 1) := by rw [hAe]; (simp (disch := first | omega | (simp only [z1, z2]; omega) | (simp only [z1, z2]; done) | fail) only [z8, z4, z5, z9, z7, z1, z2, *]; exact rfl)
  have A17 : hA.get (H.next + 3) = some (.cells [.func (.func 103) #[] #[.pointer (some ⟨p12, 0, none⟩), .pointer (some ⟨H.next, 0, none⟩), .pointer (some ⟨H.next + 2, 0, none⟩), .pointer (some ⟨H.next + 1, 0, none⟩)]] true 1) := by rw [hAe]; (simp (disch := first | omega | (simp only [z1, z2]; omega) | (simp only [z1, z2]; done) | fail) only [z8, z4, z5, z9, z7, z1, z2, *]; exact rfl)
  have A5 : hA.next = H.next + 4 := by rw [hAe]; rfl
  have A6 : hA.log = [] := by rw [hAe]; simp (disch := first | omega | (simp only [z1, z2]; omega)) only [Heap.log_wr_new, Heap.log_push]; exact hr.log
  have A7 : WF hA := by rw [hAe]; exact ((((((((((hr.wf.push _).as (AS.wr _ _ _ _)).as (AS.wr _ _ _ _)).push _).push _).as (AS.wr _ _ _ _)).as (AS.wr _ _ _ _)).push _).as (AS.wr _ _ _ _)))
  clear hAe
  have AA : AddAt hA p12 H.next (H.next + 1) (H.next + 3) mb u a b ((0, 0), false) := ⟨(A1 _ k12 n12).trans g12, (A1 _ ku nu).trans gu, A14, A15, A16, A17⟩
  refine yC ?_
  refine FW.gs0 (AA.log.call F.p F.f103 (.of A7) 0 (0, 0)) (fun _ _ _ q => q) (fun z hz => by omega) ?_
  rintro _ hB hBn hBl hBo hBw ⟨rfl, hB16, hB15⟩
  have B1 : ∀ z, z < H.next → z ≠ l → hB.get z = H.get z := fun z hz hne => (hBo z (by omega) (by omega)).trans (A1 z hz hne)
  have B2 := (hBo l (by omega) (by omega)).trans A2
  have B14 := (hBo H.next (by omega) (by omega)).trans A14
  have B17 := (hBo (H.next + 3) (by omega) (by omega)).trans A17
  have B6 := hBl.trans A6
  have B7 := hBw A7
  clear hBo hBl hBw AA A1 A2 A14 A15 A16 A17 A6 A7
  generalize hst0 : addS (look u (a, b)) ((0, 0), false) 0 (0, 0) = st0 at hB16 hB15
  have B11 := (B1 _ k11 n11).trans g11
  refine y3 ?_; refine wE_seq ?_; refine y4 ?_; refine yL ?_; refine yN ?_
  refine yC ?_
  refine FW.al (leaves104 F.p F.f104 (.of B7) bb a b) (fun _ _ _ q => q) ?_
  rintro _ h1 hx1 ⟨rfl, hn1, gp, gx⟩
  have eB : ({ hB with log := [] } : Heap).next = hB.next := rfl
  rw [eB] at hn1 gp gx
  rw [eB]
  have C1 : ∀ z, z < H.next → z ≠ l → h1.get z = H.get z := fun z hz hne => (hx1.old z (by omega)).trans (B1 z hz hne)
  have C2 := (hx1.old l (by omega)).trans B2
  have C14 := (hx1.old H.next (by omega)).trans B14
  have C15 := (hx1.old (H.next + 1) (by omega)).trans hB15
  have C16 := (hx1.old (H.next + 2) (by omega)).trans hB16
  have C17 := (hx1.old (H.next + 3) (by omega)).trans B17
  have C6 : h1.log = [] := hx1.log.trans B6
  have C7 : WF h1 := hx1.wf B7
  have hlen : kl.length = n := by have := hks.len; rw [kcs_length] at this; omega
  clear hx1 B1 B2 B14 hB15 hB16 B17 B6 B7 B11
  refine y3 ?_; refine wE_block ?_
  refine inner_rangeS (lo := H.next + 1) (S := fun z => H.next + 1 ≤ z ∧ z < H.next + 3) (all := leavesL a b kl 0) (P0 := fun d H' => H'.get (H.next + 2) = some (.cells [.bool (addL (look u (a, b)) (leafO ws kind) d st0).2] true 1) ∧ H'.get (H.next + 1) = some (.cells [.int .i64 (addL (look u (a, b)) (leafO ws kind) d st0).1.1, .int .i64 (addL (look u (a, b)) (leafO ws kind) d st0).1.2] true 1)) (round_ok C2) (by rfl) (by rw [F.f140]; rfl) (by omega) (by omega) C6 C7 (fun x hx => by omega) (fun d H1 H2 h q => ⟨(h _ (by omega)).trans q.1, (h _ (by omega)).trans q.2⟩) ?_ ?_
  · refine leaves140 F.p F.f140 (.of (C7.push _)) (pb := hB.next) (bb := bb) (px := hB.next + 1) (l' := h1.next) (N := h1.next + 1) (lo := H.next + 1) (a := a) (b := b) (n := n) (c := c) (sa := sa) (l := kl) (v1 := .int .i64 kerf) (v2 := .slice wa n wc) (Nat.le_refl _) (by show H.next + 1 ≤ h1.next + 1; omega) hn
      (PWS.yld F.p (fun x hx => by omega) (fun d H1 H2 h q => ⟨(h _ (by omega)).trans q.1, (h _ (by omega)).trans q.2⟩) fun done x H' hx hr' hlt hP => ?_) ((z4 (by omega)).trans gp) ((z4 (by omega)).trans ((C1 bb kb nb).trans gb)) (fun d H' hP => ?_) (fun d H' hP => (hP.old _ (by omega) (by omega)).trans gx) ⟨fun z hz _ => z4 hz, ⟨(z4 (by omega)).trans C16, (z4 (by omega)).trans C15⟩, z3 _ _, Nat.lt_succ_self _⟩
    · have hO : ∀ z, z < H.next → z ≠ l → H'.get z = H.get z := fun z hz hne => (hP.old z (by omega) (by omega)).trans (C1 z hz hne)
      refine FW.mono' (leaf_add F.p F.f103 hr' (x := x) (n := n) (p15 := H.next + 1) (a := a) (b := b) (st := addL (look u (a, b)) (leafO ws kind) done st0) (by have := leaves_idx x hx; omega) hP.loop ((hO _ k7 n7).trans g7) ((hO _ k11 n11).trans g11) ((hO _ kb nb).trans gb) (SliceOf.agree hws (by omega) fun b0 vs o t hb he => hO b0 hb (ne_loop he gl)) ⟨(hO _ k12 n12).trans g12, (hO _ ku nu).trans gu, (hP.old H.next (by omega) (by omega)).trans C14, hP.obj.2, hP.obj.1, (hP.old (H.next + 3) (by omega) (by omega)).trans C17⟩) ?_
      rintro r H'' ⟨q1, q2, q3, q4⟩
      exact ⟨q1, q2, q3, by rw [addL_snoc]; exact q4⟩
    · have := hP.nx
      exact SliceOf.agree hks (by omega) fun b0 vs o t hb he => (hP.old b0 (by omega) (by omega)).trans (C1 b0 hb (ne_loop he gl))
  intro h3 c1 c2 c3 c4 c5
  have D1 : ∀ z, z < H.next → z ≠ l → h3.get z = H.get z := fun z hz hne => (c4 z (by omega) (by omega)).trans (C1 z hz hne)
  have D2 := (c4 l (by omega) (by omega)).trans C2
  have D14 := (c4 H.next (by omega) (by omega)).trans C14
  have D17 := (c4 (H.next + 3) (by omega) (by omega)).trans C17
  have D11 := (D1 _ k11 n11).trans g11
  clear C1 C2 C14 C15 C16 C17 C6 C7 c4 gp gx
  obtain ⟨d16, d15⟩ := c5
  generalize hst1 : addL (look u (a, b)) (leafO ws kind) (leavesL a b kl 0) st0 = st1 at d16 d15
  refine kB_n ?_; refine kS_n ?_; refine wE_seq ?_; refine y4 ?_; refine yL ?_; refine yN ?_
  refine yC ?_
  refine FW.al (cuts105 F.p F.f105 (.of c2) _ a b) (fun _ _ _ q => q) ?_
  rintro _ h4 hx4 ⟨rfl, hn4, gx4⟩
  have e3 : ({ h3 with log := [] } : Heap).next = h3.next := rfl
  rw [e3] at hn4 gx4
  rw [e3]
  have E1 : ∀ z, z < H.next → z ≠ l → h4.get z = H.get z := fun z hz hne => (hx4.old z (by omega)).trans (D1 z hz hne)
  have E2 := (hx4.old l (by omega)).trans D2
  have E14 := (hx4.old H.next (by omega)).trans D14
  have E15 := (hx4.old (H.next + 1) (by omega)).trans d15
  have E16 := (hx4.old (H.next + 2) (by omega)).trans d16
  have E17 := (hx4.old (H.next + 3) (by omega)).trans D17
  have E6 : h4.log = [] := hx4.log.trans c1
  have E7 : WF h4 := hx4.wf c2
  clear hx4 D1 D2 D14 D17 D11 d15 d16 c1 c2
  refine y3 ?_; refine wE_block ?_
  refine inner_rangeS (lo := H.next + 1) (S := fun z => H.next + 1 ≤ z ∧ z < H.next + 3) (all := cutsL a b) (P0 := fun d H' => H'.get (H.next + 2) = some (.cells [.bool (addL (look u (a, b)) (cutO kerf u t a b) d st1).2] true 1) ∧ H'.get (H.next + 1) = some (.cells [.int .i64 (addL (look u (a, b)) (cutO kerf u t a b) d st1).1.1, .int .i64 (addL (look u (a, b)) (cutO kerf u t a b) d st1).1.2] true 1)) (round_ok E2) (by rfl) (by rw [F.f141]; rfl) (by omega) (by omega) E6 E7 (fun x hx => by omega) (fun d H1 H2 h q => ⟨(h _ (by omega)).trans q.1, (h _ (by omega)).trans q.2⟩) ?_ ?_
  · refine cuts141 F.p F.f141 (.of (E7.push _)) (bx := h3.next) (l := h4.next) (N := h4.next + 1) (lo := H.next + 1) (a := a) (b := b) (Nat.le_refl _) (by show H.next + 1 ≤ h4.next + 1; omega) ha hb
      (PWS.yld F.p (fun x hx => by omega) (fun d H1 H2 h q => ⟨(h _ (by omega)).trans q.1, (h _ (by omega)).trans q.2⟩) fun done x H' hx hr' hlt hP => ?_) (fun d H' hP => (hP.old _ (by omega) (by omega)).trans gx4) ⟨fun z hz _ => z4 hz, ⟨(z4 (by omega)).trans E16, (z4 (by omega)).trans E15⟩, z3 _ _, Nat.lt_succ_self _⟩
    have hxc := cuts_of hx
    have hO : ∀ z, z < H.next → z ≠ l → H'.get z = H.get z := fun z hz hne => (hP.old z (by omega) (by omega)).trans (E1 z hz hne)
    refine FW.mono' (cut_add F.p F.f103 F.f106 hr' (x := x) (p15 := H.next + 1) (a := a) (b := b) (kerf := kerf) (t := t) (st := addL (look u (a, b)) (cutO kerf u t a b) done st1) (by omega) (by omega) ha hb hk (hsum x hx) hP.loop ((hO _ k11 n11).trans g11) ((hO _ kb nb).trans gb) ((hO _ k13 n13).trans g13) ((hO _ ko no).trans go) ⟨(hO _ k12 n12).trans g12, (hO _ ku nu).trans gu, (hP.old H.next (by omega) (by omega)).trans E14, hP.obj.2, hP.obj.1, (hP.old (H.next + 3) (by omega) (by omega)).trans E17⟩) ?_
    rintro r H'' ⟨q1, q2, q3, q4⟩
    exact ⟨q1, q2, q3, by rw [addL_snoc]; exact q4⟩
  intro h5 c1 c2 c3 c4 c5
  have G1 : ∀ z, z < H.next → z ≠ l → h5.get z = H.get z := fun z hz hne => (c4 z (by omega) (by omega)).trans (E1 z hz hne)
  have G2 := (c4 l (by omega) (by omega)).trans E2
  have G14 := (c4 H.next (by omega) (by omega)).trans E14
  have G13 : h5.get p13 = some (.cells [.map (some mo)] true 1) := (G1 _ k13 n13).trans g13
  have G8 : h5.get mo = some (.map (entsG oV t)) := (G1 _ ko no).trans go
  obtain ⟨d16, d15⟩ := c5
  clear E1 E2 E14 E15 E16 E17 E6 E7 c4 gx4
  have hS : oftenS kerf ws kl kind u t a b = addL (look u (a, b)) (cutO kerf u t a b) (cutsL a b) st1 := by unfold oftenS; rw [hst0, hst1]
  rw [← hS] at d16 d15
  refine kB_n ?_; refine kS_n ?_; refine wE_region ?_; refine yL ?_; refine yN ?_; refine yN ?_
  refine wO_val (a_mapUpG oV (x := (a, b)) (z := (oftenS kerf ws kl kind u t a b).1) (by exact rfl) (by exact rfl) (by exact rfl) G8) ?_
  refine wO_nil ?_; refine y1 ?_; refine kB_n ?_
  refine ⟨rfl, ⟨_, by (simp (disch := first | omega | (simp only [z1, z2]; omega)) only [z3, z4, z5, z6, z7, z1, z2, *]; exact rfl), rfl⟩, ?_, ?_⟩
  · intro z hz
    rw [log_wr_q c1 ko] at hz
    simp at hz; omega
  · intro h6 hn6 hag hl6
    refine ⟨fun z hz hne => ?_, (hag mo ko no).trans (Heap.get_wr_new G8)⟩
    by_cases hz2 : z = l
    · rw [hz2]; exact hl6.trans gl.symm
    · exact (hag z hz hz2).trans ((z5 hne).trans (G1 z hz hz2))
end Go.A.Pk
end
section
namespace Go.A.Pk
def tab1 (t : TabO) : Tab := t.map fun e => (e.1, e.2.1)
def tab2 (t : TabO) : Tab := t.map fun e => (e.1, e.2.2)
theorem look_tab1 (x : Int × Int) : ∀ t : TabO, look (tab1 t) x = (lookG (0, 0) t x).1
  | [] => rfl
  | e :: t => by
    show (if isKey x (e.1, e.2.1) = true then e.2.1 else look (tab1 t) x) = (if isKeyG x e.1 = true then e.2 else lookG (0, 0) t x).1
    rw [look_tab1 x t]
    have : isKey x (e.1, e.2.1) = isKeyG x e.1 := rfl
    rw [this]
    split <;> rfl
theorem look_tab2 (x : Int × Int) : ∀ t : TabO, look (tab2 t) x = (lookG (0, 0) t x).2
  | [] => rfl
  | e :: t => by
    show (if isKey x (e.1, e.2.2) = true then e.2.2 else look (tab2 t) x) = (if isKeyG x e.1 = true then e.2 else lookG (0, 0) t x).2
    rw [look_tab2 x t]
    have : isKey x (e.1, e.2.2) = isKeyG x e.1 := rfl
    rw [this]
    split <;> rfl
theorem tab1_upd (x : Nat × Nat) (v : Int × Int) : ∀ t : TabO, tab1 (updG t x v) = upd (tab1 t) x v.1
  | [] => rfl
  | e :: t => by
    show tab1 (if isKeyG (x.1, x.2) e.1 = true then (x, v) :: t else e :: updG t x v) = (if isKey (x.1, x.2) (e.1, e.2.1) = true then (x, v.1) :: tab1 t else (e.1, e.2.1) :: upd (tab1 t) x v.1)
    have : isKey ((x.1 : Int), (x.2 : Int)) (e.1, e.2.1) = isKeyG (x.1, x.2) e.1 := rfl
    rw [this]
    split
    · rfl
    · show (e.1, e.2.1) :: tab1 (updG t x v) = _
      rw [tab1_upd x v t]
theorem tab2_upd (x : Nat × Nat) (v : Int × Int) : ∀ t : TabO, tab2 (updG t x v) = upd (tab2 t) x v.2
  | [] => rfl
  | e :: t => by
    show tab2 (if isKeyG (x.1, x.2) e.1 = true then (x, v) :: t else e :: updG t x v) = (if isKey (x.1, x.2) (e.1, e.2.2) = true then (x, v.2) :: tab2 t else (e.1, e.2.2) :: upd (tab2 t) x v.2)
    have : isKey ((x.1 : Int), (x.2 : Int)) (e.1, e.2.2) = isKeyG (x.1, x.2) e.1 := rfl
    rw [this]
    split
    · rfl
    · show (e.1, e.2.2) :: tab2 (updG t x v) = _
      rw [tab2_upd x v t]
def BdO (t : TabO) : Prop := Bd 1 (tab1 t) ∧ Bd 1 (tab2 t)
def In (B : Int) (p : Int × Int) : Prop := (0 ≤ p.1 ∧ p.1 ≤ B) ∧ (0 ≤ p.2 ∧ p.2 ≤ B)
theorem addS_in {B b w : Int} {st : (Int × Int) × Bool} {o : Int × Int} (h1 : In B st.1) (h2 : In B o) : In B (addS b st w o).1 := by
  unfold addS
  split
  · split
    · unfold In mn mx at *
      constructor
      · show 0 ≤ (if o.1 < st.1.1 then o.1 else st.1.1) ∧ (if o.1 < st.1.1 then o.1 else st.1.1) ≤ B
        split <;> omega
      · show 0 ≤ (if o.2 > st.1.2 then o.2 else st.1.2) ∧ (if o.2 > st.1.2 then o.2 else st.1.2) ≤ B
        split <;> omega
    · exact h2
  · exact h1
theorem addL_in {B b : Int} {f : Nat × Nat → Int × (Int × Int)} : ∀ {xs : List (Nat × Nat)} {st : (Int × Int) × Bool}, In B st.1 → (∀ x ∈ xs, In B (f x).2) → In B (addL b f xs st).1
  | [], _, h, _ => h
  | x :: xs, st, h, hx => addL_in (xs := xs) (st := addS b st (f x).1 (f x).2) (addS_in h (hx x (List.mem_cons_self ..))) fun y hy => hx y (List.mem_cons_of_mem _ hy)
theorem cutO_bd {kerf : Int} {u : Tab} {t : TabO} {W : Int} (hW : 0 ≤ W ∧ W ≤ 1000000000) (hk : 0 ≤ kerf) (hu : Bd W u) (ht : BdO t) {a b : Nat} (ha : a < 1000) (hb : b < 1000) {x : Nat × Nat} (hx : x ∈ cutsL a b) : CutOk kerf u t a b x ∧ In ((a : Int) * (b : Int)) (cutO kerf u t a b x).2 := by
  have h1 := cut_bd hW.1 hk hu hx
  have h2 := cut_bd (W := 1) (by omega) hk ht.1 hx
  have h3 := cut_bd (W := 1) (by omega) hk ht.2 hx
  rw [look_tab1, look_tab1] at h2
  rw [look_tab2, look_tab2] at h3
  have h4 : W * ((a : Int) * (b : Int)) ≤ 1000000000 * (1000 * 1000) := Int.le_trans (area_mono (W := W) (a := a) (b := b) (c := 1000) (d := 1000) hW.1 (by omega) (by omega) (by omega) (by omega)) (Int.mul_le_mul_of_nonneg_right hW.2 (by omega))
  have h5 : 1 * ((a : Int) * (b : Int)) ≤ 1 * (1000 * 1000) := area_mono (W := 1) (a := a) (b := b) (c := 1000) (d := 1000) (by omega) (by omega) (by omega) (by omega) (by omega)
  unfold CutOk In cutO
  refine ⟨⟨⟨by omega, by omega⟩, ⟨by omega, by omega⟩, ⟨by omega, by omega⟩⟩, ⟨h2.1, by simpa using h2.2⟩, ⟨h3.1, by simpa using h3.2⟩⟩
theorem oftenS_bd {kerf kind : Int} {ws : List Int} {kl : List Kd} {u : Tab} {t : TabO} {W : Int} (hW : 0 ≤ W ∧ W ≤ 1000000000) (hk : 0 ≤ kerf) (hu : Bd W u) (ht : BdO t) {a b : Nat} (ha : a < 1000) (hb : b < 1000) (ha1 : 1 ≤ a) (hb1 : 1 ≤ b) : In ((a : Int) * (b : Int)) (oftenS kerf ws kl kind u t a b).1 := by
  have hp : (1 : Int) ≤ (a : Int) * (b : Int) := by
    have := area_mono (W := 1) (a := 1) (b := 1) (c := a) (d := b) (by omega) (by omega) (by omega) (by omega) (by omega)
    omega
  refine addL_in (addL_in (addS_in ⟨by simp; omega, by simp; omega⟩ ⟨by simp; omega, by simp; omega⟩) fun x _ => ?_) fun x hx => (cutO_bd hW hk hu ht ha hb hx).2
  unfold leafO In
  split <;> simp <;> omega
theorem BdO.upd {t : TabO} {x : Nat × Nat} {v : Int × Int} (h : BdO t) (hx : 1 ≤ x.1 ∧ 1 ≤ x.2) (hv : In ((x.1 : Int) * (x.2 : Int)) v) : BdO (updG t x v) := by
  unfold BdO
  rw [tab1_upd, tab2_upd]
  exact ⟨upd_bd hx ⟨hv.1.1, by have := hv.1.2; omega⟩ h.1, upd_bd hx ⟨hv.2.1, by have := hv.2.2; omega⟩ h.2⟩
def oftenL (kerf : Int) (ws : List Int) (kl : List Kd) (kind : Int) (u : Tab) (done : List (Nat × Nat)) : TabO := done.foldl (fun t x => updG t x (oftenS kerf ws kl kind u t x.1 x.2).1) []
theorem oftenL_snoc (kerf : Int) (ws : List Int) (kl : List Kd) (kind : Int) (u : Tab) (done : List (Nat × Nat)) (x : Nat × Nat) : oftenL kerf ws kl kind u (done ++ [x]) = updG (oftenL kerf ws kl kind u done) x (oftenS kerf ws kl kind u (oftenL kerf ws kl kind u done) x.1 x.2).1 := by simp [oftenL]
def padd (p q : Int × Int) : Int × Int := (p.1 + q.1, p.2 + q.2)
def OF (kerf : Int) (ws : List Int) (kl : List Kd) (kind : Int) : Nat → Int × Int → Int × Int
  | 0, _ => (0, 0)
  | n + 1, p => if 1 ≤ p.1 ∧ 1 ≤ p.2 then
      (addL (V kerf ws kl p) (fun x => (V kerf ws kl (oneB x p.1.toNat p.2.toNat) + V kerf ws kl (twoB kerf x p.1.toNat p.2.toNat), padd (OF kerf ws kl kind n (oneB x p.1.toNat p.2.toNat)) (OF kerf ws kl kind n (twoB kerf x p.1.toNat p.2.toNat)))) (cutsL p.1.toNat p.2.toNat)
        (addL (V kerf ws kl p) (leafO ws kind) (leavesL p.1.toNat p.2.toNat kl 0) (addS (V kerf ws kl p) ((0, 0), false) 0 (0, 0)))).1 else (0, 0)
variable {kerf : Int} {ws : List Int} {kl : List Kd} {kind : Int}
theorem addL_congr {b : Int} {f g : Nat × Nat → Int × (Int × Int)} : ∀ {xs : List (Nat × Nat)} {st : (Int × Int) × Bool}, (∀ x ∈ xs, f x = g x) → addL b f xs st = addL b g xs st
  | [], _, _ => rfl
  | x :: xs, st, h => by
    show addL b f xs (addS b st (f x).1 (f x).2) = addL b g xs (addS b st (g x).1 (g x).2)
    rw [h x (List.mem_cons_self ..), addL_congr fun y hy => h y (List.mem_cons_of_mem _ hy)]
theorem OF_succ (hk : 0 ≤ kerf) : ∀ {n : Nat} {p : Int × Int}, sz p ≤ n → OF kerf ws kl kind (n + 1) p = OF kerf ws kl kind n p
  | 0, p, h => by
    unfold sz at h
    simp only [OF]
    rw [if_neg (by omega)]
  | n + 1, p, h => by
    rw [OF, OF]
    split
    · refine congrArg (·.1) (addL_congr fun x hx => ?_)
      have := cut_lt hk hx
      unfold sz at h
      rw [OF_succ hk (by omega), OF_succ hk (by omega)]
    · rfl
theorem OF_ge (hk : 0 ≤ kerf) {n : Nat} {p : Int × Int} (h : sz p ≤ n) : ∀ {m : Nat}, n ≤ m → OF kerf ws kl kind m p = OF kerf ws kl kind n p := by
  intro m hm
  induction m with
  | zero => obtain rfl : n = 0 := by omega
            rfl
  | succ m ih =>
    by_cases e : n = m + 1
    · rw [e]
    · rw [OF_succ hk (by omega), ih (by omega)]
def Of (kerf : Int) (ws : List Int) (kl : List Kd) (kind : Int) (p : Int × Int) : Int × Int := OF kerf ws kl kind (sz p) p
theorem Of_out {p : Int × Int} (h : ¬ (1 ≤ p.1 ∧ 1 ≤ p.2)) : Of kerf ws kl kind p = (0, 0) := by
  unfold Of
  cases sz p with
  | zero => rfl
  | succ n => rw [OF, if_neg h]
def cutP (kerf : Int) (ws : List Int) (kl : List Kd) (kind : Int) (a b : Nat) (x : Nat × Nat) : Int × (Int × Int) := (V kerf ws kl (oneB x a b) + V kerf ws kl (twoB kerf x a b), padd (Of kerf ws kl kind (oneB x a b)) (Of kerf ws kl kind (twoB kerf x a b)))
theorem Of_eq (hk : 0 ≤ kerf) {a b : Nat} (ha : 1 ≤ a) (hb : 1 ≤ b) : Of kerf ws kl kind ((a : Int), (b : Int)) = (addL (V kerf ws kl ((a : Int), (b : Int))) (cutP kerf ws kl kind a b) (cutsL a b) (addL (V kerf ws kl ((a : Int), (b : Int))) (leafO ws kind) (leavesL a b kl 0) (addS (V kerf ws kl ((a : Int), (b : Int))) ((0, 0), false) 0 (0, 0)))).1 := by
  have hs : sz ((a : Int), (b : Int)) = a + b := by simp [sz]
  unfold Of
  rw [hs]
  obtain ⟨n, hn⟩ : ∃ n, a + b = n + 1 := ⟨a + b - 1, by omega⟩
  rw [hn, OF, if_pos ⟨by show (1 : Int) ≤ a; omega, by show (1 : Int) ≤ b; omega⟩]
  refine congrArg (·.1) (addL_congr fun x hx => ?_)
  have : sz (oneB x a b) < a + b ∧ sz (twoB kerf x a b) < a + b := cut_lt hk hx
  show (V kerf ws kl (oneB x a b) + V kerf ws kl (twoB kerf x a b), padd (OF kerf ws kl kind n (oneB x a b)) (OF kerf ws kl kind n (twoB kerf x a b))) = _
  rw [OF_ge hk (n := sz (oneB x a b)) (Nat.le_refl _) (by omega), OF_ge hk (n := sz (twoB kerf x a b)) (Nat.le_refl _) (by omega)]
  rfl
theorem often_look (hk : 0 ≤ kerf) {u : Tab} {w h : Nat} (hu : ∀ z : Int × Int, (1 ≤ z.1 ∧ 1 ≤ z.2 → z.1 ≤ w ∧ z.2 ≤ h) → look u z = V kerf ws kl z) : ∀ (i j : Nat), j ≤ h → i ≤ w → (j = 0 ∨ i < w) → ∀ y : Int × Int, lookG (0, 0) (oftenL kerf ws kl kind u (boardsL i h ++ row (i + 1) j)) y =
    if (1 ≤ y.1 ∧ y.1 ≤ i ∧ 1 ≤ y.2 ∧ y.2 ≤ h) ∨ (y.1 = (i : Int) + 1 ∧ 1 ≤ y.2 ∧ y.2 ≤ j) then Of kerf ws kl kind y else (0, 0)
  | 0, 0, _, _, _, y => by
    rw [if_neg (by omega)]
    rfl
  | i + 1, 0, hj, hi, _, y => by
    have e : boardsL (i + 1) h ++ row (i + 1 + 1) 0 = boardsL i h ++ row (i + 1) h := by simp [boardsL, row]
    rw [e, often_look hk hu i h (Nat.le_refl _) (by omega) (.inr (by omega)) y]
    have : ((1 ≤ y.1 ∧ y.1 ≤ i ∧ 1 ≤ y.2 ∧ y.2 ≤ h) ∨ (y.1 = (i : Int) + 1 ∧ 1 ≤ y.2 ∧ y.2 ≤ h)) ↔ ((1 ≤ y.1 ∧ y.1 ≤ (i + 1 : Nat) ∧ 1 ≤ y.2 ∧ y.2 ≤ h) ∨ (y.1 = ((i + 1 : Nat) : Int) + 1 ∧ 1 ≤ y.2 ∧ y.2 ≤ (0 : Nat))) := by omega
    by_cases hc : (1 ≤ y.1 ∧ y.1 ≤ i ∧ 1 ≤ y.2 ∧ y.2 ≤ h) ∨ (y.1 = (i : Int) + 1 ∧ 1 ≤ y.2 ∧ y.2 ≤ h)
    · rw [if_pos hc, if_pos (this.1 hc)]
    · rw [if_neg hc, if_neg (fun q => hc (this.2 q))]
  | i, j + 1, hj, hi, hij, y => by
    have ih := often_look hk hu i j (by omega) hi (by omega)
    rw [row_succ, ← List.append_assoc, oftenL_snoc, look_updG, ih y]
    have hval : (oftenS kerf ws kl kind u (oftenL kerf ws kl kind u (boardsL i h ++ row (i + 1) j)) (i + 1) (j + 1)).1 = Of kerf ws kl kind (((i + 1 : Nat) : Int), ((j + 1 : Nat) : Int)) := by
      have hV := hu (((i + 1 : Nat) : Int), ((j + 1 : Nat) : Int)) (by simp; omega)
      rw [Of_eq hk (by omega) (by omega)]
      unfold oftenS
      rw [hV]
      refine congrArg (·.1) (addL_congr fun x hx => ?_)
      have key : ∀ z : Int × Int, (1 ≤ z.1 ∧ 1 ≤ z.2 → ((1 ≤ z.1 ∧ z.1 ≤ i ∧ 1 ≤ z.2 ∧ z.2 ≤ h) ∨ (z.1 = (i : Int) + 1 ∧ 1 ≤ z.2 ∧ z.2 ≤ j))) → lookG (0, 0) (oftenL kerf ws kl kind u (boardsL i h ++ row (i + 1) j)) z = Of kerf ws kl kind z := fun z hz => by
        rw [ih]
        by_cases hc : 1 ≤ z.1 ∧ 1 ≤ z.2
        · rw [if_pos (hz hc)]
        · rw [if_neg (by omega), Of_out hc]
      unfold cutO cutP padd
      rcases cuts_of hx with ⟨e3, hl, hu'⟩ | ⟨e4, hl, hu'⟩
      · rw [key (oneB x (i + 1) (j + 1)) (by simp only [oneB, e3, if_true]; omega), key (twoB kerf x (i + 1) (j + 1)) (by simp only [twoB, e3, if_true]; omega), hu (twoB kerf x (i + 1) (j + 1)) (by simp only [twoB, e3, if_true]; omega), hu (oneB x (i + 1) (j + 1)) (by simp only [oneB, e3, if_true]; omega)]
      · have n3 : ¬ x.1 = 3 := by omega
        rw [key (oneB x (i + 1) (j + 1)) (by simp only [oneB, if_neg n3]; omega), key (twoB kerf x (i + 1) (j + 1)) (by simp only [twoB, if_neg n3]; omega), hu (twoB kerf x (i + 1) (j + 1)) (by simp only [twoB, if_neg n3]; omega), hu (oneB x (i + 1) (j + 1)) (by simp only [oneB, if_neg n3]; omega)]
    by_cases he : y = (((i + 1 : Nat) : Int), ((j + 1 : Nat) : Int))
    · rw [if_pos he, hval, if_pos (by rw [he]; simp; omega), he]
    · rw [if_neg he]
      have hne : ¬ (y.1 = ((i + 1 : Nat) : Int) ∧ y.2 = ((j + 1 : Nat) : Int)) := fun q => he (Prod.ext q.1 q.2)
      by_cases hc : (1 ≤ y.1 ∧ y.1 ≤ i ∧ 1 ≤ y.2 ∧ y.2 ≤ h) ∨ (y.1 = (i : Int) + 1 ∧ 1 ≤ y.2 ∧ y.2 ≤ j)
      · rw [if_pos hc, if_pos (by omega)]
      · rw [if_neg hc, if_neg (by omega)]
theorem often_Of (hk : 0 ≤ kerf) {w h : Nat} (hw : 1 ≤ w) (hh : 1 ≤ h) : lookG (0, 0) (oftenL kerf ws kl kind (tabL kerf ws kl (boardsL w h)) (boardsL w h)) ((w : Int), (h : Int)) = Of kerf ws kl kind ((w : Int), (h : Int)) := by
  have := often_look hk (ws := ws) (kl := kl) (kind := kind) (tab_V (ws := ws) (kl := kl) hk (w := w) (h := h)) w 0 (Nat.zero_le _) (Nat.le_refl _) (.inl rfl) ((w : Int), (h : Int))
  rw [show boardsL w h ++ row (w + 1) 0 = boardsL w h by simp [row]] at this
  rw [this, if_pos (by simp; omega)]
end Go.A.Pk
end
section
set_option maxRecDepth 100000
namespace Go.A.Pk
variable {T : Nat → Option AFunc}
structure FnsO3 (T : Nat → Option AFunc) : Prop extends FnsW T, FnsO2 T where
  f46 : T 46 = some f46
def ofP (kerf : Int) (l : List Kd) (w ht kind : Int) : Int × Int := if askK kerf l w ht kind = 0 then Of kerf (wsOf l) l kind (w, ht) else (0, 0)
def ofR (kerf : Int) (l : List Kd) (w ht kind : Int) : Value := .tuple #[.int .i64 (ofP kerf l w ht kind).1, .int .i64 (ofP kerf l w ht kind).2, .int .i64 (askK kerf l w ht kind)]
theorem SliceOf.ints_wr {base : Nat} {h : Heap} {n q s0 : Nat} {v p : Value} {xs : List Int} {o0 : Bool} {o : AObj} (s : SliceOf h 1 v n (ints xs)) (hq : h.get q = some (.cells [p] o0 s0)) (hp : ∀ z, p ≠ .int .i64 z) (h0 : n ≠ 0) : SliceOf (h.wr base q o) 1 v n (ints xs) := by
  rcases s.inv with ⟨_, _, e, _⟩ | ⟨b, o', cap, rfl, s', hc⟩
  · exact (h0 e).elim
  · obtain ⟨vs, own, t, h1, h2⟩ := s'.obj
    have hne : b ≠ q := fun e => by
      subst e
      rw [hq] at h1
      cases h1
      have hl := s'.len
      rw [ltake_eq, ldrop_eq] at h2
      rw [← h2, List.length_take, List.length_drop] at hl
      have e1 : o' = 0 := by simp at hl; omega
      have e2 : n = 1 := by simp at hl; omega
      subst e1 e2
      cases xs with
      | nil => simp [ints] at h2
      | cons x xs => simp [ints] at h2; exact hp x h2.1
    exact .mem ⟨s'.lt, ⟨vs, own, t, (z5 hne).trans h1, h2⟩, s'.len⟩ hc
set_option maxHeartbeats 8000000 in
theorem often46 (F : FnsO3 T) {h : Heap} (hr : Rdy h) {a : Option Addr} {n c : Nat} {l : List Kd} (hs : SliceOf h 5 (.slice a n c) n (kcs l)) (kerf : Int) (hn : n < 1000000) (w ht kind : Int) : Pu T 46 [.agg #[.slice a n c, .int .i64 kerf], .int .i64 w, .int .i64 ht, .int .i64 kind] h (ofR kerf l w ht kind) := by
  have hp := F.toFnsO2.toFnsV.p
  refine .of hp F.f46 hr rfl ?_
  have hx : Ext h (((h.push (.cells [.slice a n c, .int .i64 kerf] true 1)).push (.cells [.int .i64 kind] true 1)).push (.cells [.pointer none] true 1)) := (((Ext.refl h).push _).push _).push _
  obtain rfl : n = l.length := by have := hs.len; rw [kcs_length] at this; omega
  refine y4 ?_; refine yB ?_; refine yB ?_; refine yM ?_; refine yM ?_; refine yM ?_; refine y3 ?_; refine wE_seq ?_; refine wE_draw ?_
  refine qN ?_
  refine qM ?_; refine qM ?_
  refine qN ?_
  refine qL ?_
  refine wD_new rfl rfl rfl (by exact rfl) (by exact rfl) (by exact rfl) a_new (by refine rs_cons (rq_quiet rfl (a_load (by exact rfl) (by (simp (disch := first | omega | (simp only [z1, z2]; omega) | (simp only [z1, z2]; done) | fail) only [z8, z4, z5, z9, z7, z1, z2, *]; exact rfl)) (by exact rfl)) (by exact sv_int _ _)) ?_; refine rs_cons (rq_quiet rfl (a_loadN (by exact rfl) (by (simp (disch := first | omega | (simp only [z1, z2]; omega)) only [z3, z4, z5, z6, z7, z1, z2, *]; exact rfl)) (by exact rfl) (by exact rfl)) (by exact sv_agg (by refine sl_cons (s1_slice _ _ _) ?_; refine sl_cons (s1_int _ _) ?_; exact sl_nil))) ?_; refine rs_cons (rq_quiet rfl (a_mov (by exact rfl)) (by exact sv_int _ _)) ?_; refine rs_cons (rq_quiet rfl (a_mov (by exact rfl)) (by exact sv_int _ _)) ?_; refine rs_cons (rq_quiet rfl (a_loadN (by exact rfl) (by (simp (disch := first | omega | (simp only [z1, z2]; omega)) only [z3, z4, z5, z6, z7, z1, z2, *]; exact rfl)) (by exact rfl) (by exact rfl)) (by exact sv_agg (by refine sl_cons (s1_slice _ _ _) ?_; refine sl_cons (s1_int _ _) ?_; exact sl_nil))) ?_; exact rs_nil) ?_
  refine qC ?_
  refine FW.puD (board76 F.toFnsW (.of (hx.wf hr.wf)) w ht) (by apply ra_keepC rfl (rq_made rfl) (by rfl); apply ra_keepC rfl (rq_quiet rfl (a_load (by exact rfl) (by (simp (disch := first | omega | (simp only [z1, z2]; omega) | (simp only [z1, z2]; done) | fail) only [z8, z4, z5, z9, z7, z1, z2, *]; exact rfl)) (by exact rfl)) (by exact sv_int _ _)) rfl; apply ra_keepC rfl (rq_quiet rfl (a_loadN (by exact rfl) (by (simp (disch := first | omega | (simp only [z1, z2]; omega)) only [z3, z4, z5, z6, z7, z1, z2, *]; exact rfl)) (by exact rfl) (by exact rfl)) (by exact sv_agg (by refine sl_cons (s1_slice _ _ _) ?_; refine sl_cons (s1_int _ _) ?_; exact sl_nil))) rfl; apply ra_dropC rfl; apply ra_dropC rfl; apply ra_keepC rfl (rq_quiet rfl (a_loadN (by exact rfl) (by (simp (disch := first | omega | (simp only [z1, z2]; omega)) only [z3, z4, z5, z6, z7, z1, z2, *]; exact rfl)) (by exact rfl) (by exact rfl)) (by exact sv_agg (by refine sl_cons (s1_slice _ _ _) ?_; refine sl_cons (s1_int _ _) ?_; exact sl_nil))) rfl; exact ra_nil) ?_
  skip
  refine qC ?_
  refine FW.puD (isKind97 F.toFnsW.toFnsE.toFnsC (.of (hx.wf hr.wf)) kerf kind hn) (by apply ra_keepC rfl (rq_made rfl) (by rfl); apply ra_dropC rfl; apply ra_dropC rfl; apply ra_keepC rfl (rq_quiet rfl (a_loadN (by exact rfl) (by (simp (disch := first | omega | (simp only [z1, z2]; omega)) only [z3, z4, z5, z6, z7, z1, z2, *]; exact rfl)) (by exact rfl) (by exact rfl)) (by exact sv_agg (by refine sl_cons (s1_slice _ _ _) ?_; refine sl_cons (s1_int _ _) ?_; exact sl_nil))) rfl; exact ra_nil) ?_
  refine wD_new rfl rfl rfl (by exact rfl) (by exact rfl) (by exact rfl) (a_bslice (by exact rfl) (by exact rfl)) (by refine rs_cons (rq_made rfl) ?_; refine rs_cons (rq_quiet rfl (a_loadN (by exact rfl) (by (simp (disch := first | omega | (simp only [z1, z2]; omega)) only [z3, z4, z5, z6, z7, z1, z2, *]; exact rfl)) (by exact rfl) (by exact rfl)) (by exact sv_agg (by refine sl_cons (s1_slice _ _ _) ?_; refine sl_cons (s1_int _ _) ?_; exact sl_nil))) ?_; exact rs_nil) ?_
  refine qC ?_
  have hx2 := hx.push (.cells [.bool (decide (OnB w ht)), .bool (decide (0 ≤ kind ∧ kind < (l.length : Int)))] true 1)
  refine FW.alD (startedB75 F.toFnsW.toFnsE (.of (hx2.wf hr.wf)) ((hs.ext hx2).log []) kerf hn (bl := [decide (OnB w ht), decide (0 ≤ kind ∧ kind < (l.length : Int))]) (m := 2) (.mem ⟨Nat.lt_succ_self _, ⟨_, _, _, z3 _ _, rfl⟩, rfl⟩ (Nat.le_refl _)) (by omega)) (fun v h' m q => StartQ.logs v h' m q) ?_
  rintro _ h1 hx3 ⟨p, rfl, hst⟩
  have e0 : startE kerf l [decide (OnB w ht), decide (0 ≤ kind ∧ kind < (l.length : Int))] = askK kerf l w ht kind := startE_two ..
  rw [e0] at hst
  rw [e0]
  have kN : h.next + 4 ≤ h1.next := hx3.next
  have G7 : h1.get (h.next + 1) = some (.cells [.int .i64 kind] true 1) := by rw [hx3.old _ (by (simp only [z1, z2]; omega))]; (simp (disch := first | omega | (simp only [z1, z2]; omega) | (simp only [z1, z2]; done) | fail) only [z8, z4, z5, z9, z7, z1, z2, *]; exact rfl)
  have G11 : h1.get (h.next + 2) = some (.cells [.pointer none] true 1) := by rw [hx3.old _ (by (simp only [z1, z2]; omega))]; (simp (disch := first | omega | (simp only [z1, z2]; omega) | (simp only [z1, z2]; done) | fail) only [z8, z4, z5, z9, z7, z1, z2, *]; done)
  have w1 : WF h1 := hx3.wf (hx2.wf hr.wf)
  have hx13 : Ext h h1 := hx2.trans hx3
  have hl1 : h1.log = [] := hx13.log.trans hr.log
  refine ⟨_, by apply ra_dropC rfl; apply ra_keepC rfl (rq_made rfl) (by rfl); apply ra_dropC rfl; exact ra_nil, ?_⟩
  by_cases ha : askK kerf l w ht kind = 0
  · obtain ⟨bb, wa, wc, rfl, gb, hws⟩ := hst ha
    obtain ⟨hc, hb, k, rfl, hk⟩ := askK_zero ha
    obtain ⟨q1, q2, q3, q4⟩ := chk_iff.1 hc
    have hb0 := hb
    obtain ⟨⟨e1, e2⟩, e3, e4⟩ := hb0
    have kb := WF.get_lt w1 gb
    have nb : bb ≠ h.next + 2 := fun e => by
      rw [e, G11] at gb
      cases gb
    have hwsb := wsOf_bd hc
    obtain ⟨w, rfl⟩ := Int.eq_ofNat_of_zero_le (show 0 ≤ w by omega)
    obtain ⟨ht, rfl⟩ := Int.eq_ofNat_of_zero_le (show 0 ≤ ht by omega)
    unfold ofR ofP
    simp only [if_pos ha]
    clear hst e0
    refine qM ?_; refine qE ?_; refine qE ?_
    refine wD_store rfl rfl rfl (by exact rfl) (by exact rfl) (by exact rfl) (by assumption) (by exact rfl) (by exact rfl) (by (simp only [z1, z2]; omega)) (by (simp only [z1, z2]; omega)) (by apply ra_keepC rfl (rq_quiet rfl (a_extract (by exact rfl) (by exact rfl)) (by exact sv_int _ _)) rfl; apply ra_dropC rfl; apply ra_dropC rfl; apply ra_dropC rfl; exact ra_nil) ?_
    refine qM ?_; refine wD_nil ?_; refine y1 ?_; refine kS_n ?_; refine wE_seq ?_; refine y4 ?_; refine yM ?_
    refine yf ?_; refine y3 ?_; refine yX ?_; refine wE_skip ?_; refine kS_n ?_; refine y4 ?_
    refine yL ?_; refine yM ?_; refine yM ?_
    refine WO.gen ?_
    intro hA hAe
    have hxA : Ext h hA := by rw [hAe]; exact hx13.wr (by (simp only [z1, z2]; omega)) (by (simp only [z1, z2]; omega))
    have A11 : hA.get (h.next + 2) = some (.cells [.pointer (some ⟨bb, 0, none⟩)] true 1) := by rw [hAe]; exact Heap.get_wr_new G11
    have A1 : ∀ z, z < h1.next → z ≠ h.next + 2 → hA.get z = h1.get z := fun z hz hne => by rw [hAe]; exact z5 hne
    have A5 : hA.next = h1.next := by rw [hAe]; rfl
    have A7 := (A1 (h.next + 1) (by omega) (by omega)).trans G7
    have wA := hxA.wf hr.wf
    have lA := hxA.log.trans hr.log
    have hwA : SliceOf hA 1 (.slice wa l.length wc) l.length (ints (wsOf l)) := by
      rw [hAe]; exact SliceOf.ints_wr hws G11 (fun z q => by cases q) (by omega)
    clear hAe G7 G11
    have hks := hs.ext hxA
    have gbA := (A1 _ kb nb).trans gb
    refine yC ?_
    refine FW.al (best83 F.toFnsW.toFnsV (.of wA) (w := w) (ht := ht) (W := 1000000) (ws := wsOf l) (by omega) (by omega) (by omega) ⟨by omega, by omega⟩ (by omega) hwsb gbA (hks.log []) (hwA.log [])) (fun _ _ _ q => q) ?_
    rintro _ h2 hx4 ⟨r, rfl, gr⟩
    refine wO_val a_new ?_; refine yS ?_; refine y3 ?_; refine y4 ?_
    refine wO_val a_mkMap ?_
    refine wO_val a_new ?_; refine yS ?_
    refine y3 ?_; refine wE_seq ?_; refine y4 ?_; refine yM ?_; refine yM ?_
    refine WO.gen ?_
    intro hB hBe
    have k2 := hx4.next
    have B1 : ∀ z, z < h2.next → hB.get z = h2.get z := fun z hz => by rw [hBe]; simp (disch := first | omega | (simp only [z1, z2]; omega)) only [z5, z4]
    have B12 : hB.get h2.next = some (.cells [.map (some r)] true 1) := by rw [hBe]; (simp (disch := first | omega | (simp only [z1, z2]; omega)) only [z3, z4, z5, z6, z7, z1, z2, *]; exact rfl)
    have Bm : hB.get (h2.next + 1) = some (.map []) := by rw [hBe]; (simp (disch := first | omega | (simp only [z1, z2]; omega) | (simp only [z1, z2]; done) | fail) only [z8, z4, z5, z9, z7, z1, z2, *]; done)
    have B13 : hB.get (h2.next + 2) = some (.cells [.map (some (h2.next + 1))] true 1) := by rw [hBe]; (simp (disch := first | omega | (simp only [z1, z2]; omega) | (simp only [z1, z2]; done) | fail) only [z8, z4, z5, z9, z7, z1, z2, *]; exact rfl)
    have B5 : hB.next = h2.next + 3 := by rw [hBe]; rfl
    have B6 : hB.log = [] := by rw [hBe]; simp (disch := first | omega | (simp only [z1, z2]; omega)) only [Heap.log_wr_new, Heap.log_push]; exact hx4.log.trans lA
    have B7 : WF hB := by rw [hBe]; exact ((((((hx4.wf wA).push _).as (AS.wr _ _ _ _)).push _).push _).as (AS.wr _ _ _ _))
    clear hBe
    have Bk := (B1 (h.next + 1) (by omega)).trans ((hx4.old _ (by omega)).trans A7)
    have B11 := (B1 (h.next + 2) (by omega)).trans ((hx4.old _ (by omega)).trans A11)
    have Bb := (B1 bb (by omega)).trans ((hx4.old bb (by omega)).trans gbA)
    have kr := WF.get_lt (hx4.wf wA) gr
    have Br := (B1 r kr).trans gr
    have Bks : SliceOf hB 5 (.slice a l.length c) l.length (kcs l) := SliceOf.agree (hks.ext hx4) (by omega) fun b vs o t hb _ => B1 b hb
    have Bws : SliceOf hB 1 (.slice wa l.length wc) l.length (ints (wsOf l)) := SliceOf.agree (hwA.ext hx4) (by omega) fun b vs o t hb _ => B1 b hb
    refine yC ?_
    refine FW.al (boards94 F.toFnsO2.toFnsV.p F.toFnsO2.toFnsV.f94 (.of B7) w ht) (fun _ _ _ q => q) ?_
    rintro _ h3 hx5 ⟨rfl, hn3, gp, gx⟩
    have eB : ({ hB with log := [] } : Heap).next = h2.next + 3 := B5
    rw [eB] at hn3 gp gx
    rw [eB]
    have C1 : ∀ z, z < h2.next + 3 → h3.get z = hB.get z := fun z hz => hx5.old z (by omega)
    have Ck := (C1 _ (by omega)).trans Bk
    have C11 := (C1 _ (by omega)).trans B11
    have C12 := (C1 _ (by omega)).trans B12
    have C13 := (C1 _ (by omega)).trans B13
    have Cm := (C1 _ (by omega)).trans Bm
    have Cb := (C1 bb (by omega)).trans Bb
    have Cr := (C1 r (by omega)).trans Br
    have C6 : h3.log = [] := hx5.log.trans B6
    have C7 : WF h3 := hx5.wf B7
    have Cks := Bks.ext hx5
    have Cws := Bws.ext hx5
    clear hx5 B1 Bk B11 B12 B13 Bm Bb Br B6 B7 Bks Bws gr
    refine y3 ?_; refine wE_block ?_
    refine inner_range (q := h2.next + 1) (all := boardsL w ht) (O := fun d => .map (entsG oV (oftenL kerf (wsOf l) l k (tabL kerf (wsOf l) l (boardsL w ht)) d))) rfl (by rfl) (by rw [F.toFnsO2.toFnsV.f136]; rfl) (by omega) (by omega) C6 C7 ?_ (by omega) ?_
    · have Y : Yld T (h2.next + 1) (h3.next + 1) h3.next boardV (boardsL w ht) fun d H => PW h3.next (h2.next + 1) h3 (.loop [(1, .int .i64 w), (2, .int .i64 ht), (7, .pointer (some ⟨h.next + 1, 0, none⟩)), (11, .pointer (some ⟨h.next + 2, 0, none⟩)), (12, .pointer (some ⟨h2.next, 0, none⟩)), (13, .pointer (some ⟨h2.next + 2, 0, none⟩)), (46, fn2 136 (h2.next + 3) (h2.next + 4))] [47] asg46a body46a 0 .normal) (fun d => .map (entsG oV (oftenL kerf (wsOf l) l k (tabL kerf (wsOf l) l (boardsL w ht)) d))) d H ∧ BdO (oftenL kerf (wsOf l) l k (tabL kerf (wsOf l) l (boardsL w ht)) d) := by
        refine ⟨fun done x H hx hrH hN hP => ?_, fun d H H' hP hN hag => ⟨PW.stable (by omega) d H H' hP.1 hN hag, hP.2⟩⟩
        obtain ⟨hP, hB⟩ := hP
        have hxb := boards_of hx
        have hU : Bd 1000000 (tabL kerf (wsOf l) l (boardsL w ht)) := tabL_bd (by omega) q2.1 hwsb _ _ (fun x hx => by have := boards_of hx; omega) (fun e he => by cases he)
        obtain ⟨x1, x2⟩ := x
        simp only at hxb
        have hO := oftenS_bd (kind := (k : Int)) (ws := wsOf l) (kl := l) (W := 1000000) (by omega) q2.1 hU hB (a := x1) (b := x2) (by omega) (by omega) hxb.1 hxb.2.2.1
        have hO2 : ∀ z, z < h3.next → z ≠ h2.next + 1 → H.get z = h3.get z := fun z hz hne => hP.old z hz hne
        refine FW.mono' (FW.withAS F.toFnsO2.toFnsV.p (often_round F.toFnsO2 hrH (a := x1) (b := x2) (n := l.length) (by omega) (by omega) (by omega) ⟨by omega, by omega⟩ (fun y hy => (cutO_bd (W := 1000000) (by omega) q2.1 hU hB (by omega) (by omega) hy).1) hP.loop ((hO2 _ (by omega) (by omega)).trans Ck) ((hO2 _ (by omega) (by omega)).trans C11) ((hO2 _ (by omega) (by omega)).trans C12) ((hO2 _ (by omega) (by omega)).trans C13) ((hO2 r (by omega) (by omega)).trans Cr) hP.obj ((hO2 bb (by omega) (by omega)).trans Cb) (SliceOf.agree Cks (by omega) fun b0 vs o t hb he => hO2 b0 hb (fun e => by rw [e, Cm] at he; cases he)) (SliceOf.agree Cws (by omega) fun b0 vs o t hb he => hO2 b0 hb (fun e => by rw [e, Cm] at he; cases he)) (by omega)) hrH.log) ?_
        rintro r' H' ⟨hA', q1, q2', q3, q4⟩
        refine ⟨q1, fun z hz => by have := q2' z hz; omega, ⟨fun y hy hne => (q3 y (by omega) hne).trans (hP.old y hy hne), by rw [oftenL_snoc]; exact q4, (q3 _ (by omega) (by omega)).trans hP.loop, Nat.lt_of_lt_of_le hP.nx hA'.next⟩, ?_⟩
        rw [oftenL_snoc]
        exact hB.upd ⟨hxb.1, hxb.2.2.1⟩ hO
      refine CW.mono (boards136 F.toFnsO2.toFnsV.p F.toFnsO2.toFnsV.f136 (.of (C7.push _)) (bw := h2.next + 3) (bh := h2.next + 4) (l := h3.next) (N := h3.next + 1) (lo := h2.next + 1) (w := w) (ht := ht) (Nat.le_refl _) (by show h2.next + 1 ≤ h3.next + 1; omega) (by omega) (by omega) Y (fun d H hP => (hP.1.old _ (by omega) (by omega)).trans gp) (fun d H hP => (hP.1.old _ (by omega) (by omega)).trans gx)
        ⟨⟨fun z hz _ => z4 hz, (z4 (by omega)).trans Cm, z3 _ _, Nat.lt_succ_self _⟩, ⟨fun e he => (by cases he), fun e he => (by cases he)⟩⟩) ?_
      rintro r' h4 ⟨q1, v, q2', q3, q4, _⟩
      exact ⟨q1, v, q2', q3, q4⟩
    intro h5 c1 c2 c3 c4 c5
    have D13 : h5.get (h2.next + 2) = some (.cells [.map (some (h2.next + 1))] true 1) := (c4 _ (by omega) (by omega)).trans C13
    refine kB_n ?_; refine kS_n ?_; refine y4 ?_; refine yL ?_; refine yM ?_; refine yM ?_; refine wO_val (a_build (by exact rfl)) ?_
    refine wO_val (a_lookupG oV (0, 0) (x := ((w : Int), (ht : Int))) (by exact rfl) (by exact rfl) c5 rfl) ?_
    rw [often_Of (by omega) (by omega) (by omega)]
    refine wO_val a_new ?_; refine yS ?_; refine y3 ?_; refine wE_seq ?_; refine wE_draw ?_; refine qF ?_
    refine qL ?_
    refine qF ?_
    refine qL ?_
    refine qM ?_; refine qM ?_; refine qM ?_; refine wD_nil ?_
    refine y1 ?_; refine kS_n ?_; refine wE_ret ?_
    rw [ha]
    refine endP_ret ((Heap.log_wr_new (by omega)).trans c1) rfl rfl
  · unfold ofR ofP
    simp only [if_neg ha]
    refine qM ?_; refine qE ?_; refine qE ?_
    refine wD_store rfl rfl rfl (by exact rfl) (by exact rfl) (by exact rfl) (by assumption) (by exact rfl) (by exact rfl) (by (simp only [z1, z2]; omega)) (by (simp only [z1, z2]; omega)) (by apply ra_keepC rfl (rq_quiet rfl (a_extract (by exact rfl) (by exact rfl)) (by exact sv_int _ _)) rfl; apply ra_dropC rfl; apply ra_dropC rfl; apply ra_dropC rfl; exact ra_nil) ?_
    refine qM ?_; refine wD_nil ?_; refine y1 ?_; refine kS_n ?_; refine wE_seq ?_; refine y4 ?_; refine yM ?_
    refine yt ?_; refine y3 ?_; refine yY ?_; refine y4 ?_; refine yM ?_; refine yM ?_
    refine yM ?_; refine yM ?_; refine y3 ?_; refine wE_ret ?_; refine kS_r ?_
    exact endP_ret ((Heap.log_wr_new (by (simp only [z1, z2]; omega))).trans hl1) rfl rfl
end Go.A.Pk
end
section
namespace Go.A.Pk
def foldO (b : Int) (os : List (Int × (Int × Int))) (st : (Int × Int) × Bool) : (Int × Int) × Bool := os.foldl (fun st o => addS b st o.1 o.2) st
theorem addL_foldO (b : Int) (f : Nat × Nat → Int × (Int × Int)) (xs : List (Nat × Nat)) (st : (Int × Int) × Bool) : addL b f xs st = foldO b (xs.map f) st := by
  unfold addL foldO
  rw [List.foldl_map]
structure InvO (b : Int) (done : List (Int × (Int × Int))) (st : (Int × Int) × Bool) : Prop where
  some : st.2 = true ↔ ∃ o ∈ done, o.1 = b
  least : st.2 = true → (∃ o ∈ done, o.1 = b ∧ st.1.1 = o.2.1) ∧ ∀ o ∈ done, o.1 = b → st.1.1 ≤ o.2.1
  most : st.2 = true → (∃ o ∈ done, o.1 = b ∧ st.1.2 = o.2.2) ∧ ∀ o ∈ done, o.1 = b → o.2.2 ≤ st.1.2
theorem InvO.step {b : Int} {done : List (Int × (Int × Int))} {st : (Int × Int) × Bool} (I : InvO b done st) (o : Int × (Int × Int)) : InvO b (done ++ [o]) (addS b st o.1 o.2) := by
  unfold addS
  have hmem : ∀ x, x ∈ done ++ [o] ↔ x ∈ done ∨ x = o := fun x => by simp
  by_cases ho : o.1 = b
  · rw [if_pos ho]
    by_cases hs : st.2 = true
    · rw [if_pos hs]
      obtain ⟨⟨l1, l2, l3, l4⟩, l5⟩ := I.least hs
      obtain ⟨⟨m1, m2, m3, m4⟩, m5⟩ := I.most hs
      refine ⟨⟨fun _ => ⟨o, (hmem o).2 (.inr rfl), ho⟩, fun _ => rfl⟩, fun _ => ⟨?_, fun x hx hb => ?_⟩, fun _ => ⟨?_, fun x hx hb => ?_⟩⟩
      · show ∃ x ∈ done ++ [o], x.1 = b ∧ mn st.1.1 o.2.1 = x.2.1
        unfold mn
        split
        · exact ⟨o, (hmem o).2 (.inr rfl), ho, rfl⟩
        · exact ⟨l1, (hmem l1).2 (.inl l2), l3, l4⟩
      · show mn st.1.1 o.2.1 ≤ x.2.1
        rcases (hmem x).1 hx with hx | rfl
        · have := l5 x hx hb; unfold mn; split <;> omega
        · unfold mn; split <;> omega
      · show ∃ x ∈ done ++ [o], x.1 = b ∧ mx st.1.2 o.2.2 = x.2.2
        unfold mx
        split
        · exact ⟨o, (hmem o).2 (.inr rfl), ho, rfl⟩
        · exact ⟨m1, (hmem m1).2 (.inl m2), m3, m4⟩
      · show x.2.2 ≤ mx st.1.2 o.2.2
        rcases (hmem x).1 hx with hx | rfl
        · have := m5 x hx hb; unfold mx; split <;> omega
        · unfold mx; split <;> omega
    · rw [if_neg hs]
      have hno : ∀ x ∈ done, x.1 ≠ b := fun x hx hb => hs (I.some.2 ⟨x, hx, hb⟩)
      refine ⟨⟨fun _ => ⟨o, (hmem o).2 (.inr rfl), ho⟩, fun _ => rfl⟩, fun _ => ⟨⟨o, (hmem o).2 (.inr rfl), ho, rfl⟩, fun x hx hb => ?_⟩, fun _ => ⟨⟨o, (hmem o).2 (.inr rfl), ho, rfl⟩, fun x hx hb => ?_⟩⟩
      · rcases (hmem x).1 hx with hx | rfl
        · exact (hno x hx hb).elim
        · exact Int.le_refl _
      · rcases (hmem x).1 hx with hx | rfl
        · exact (hno x hx hb).elim
        · exact Int.le_refl _
  · rw [if_neg ho]
    refine ⟨⟨fun h => ?_, fun ⟨x, hx, hb⟩ => ?_⟩, fun h => ?_, fun h => ?_⟩
    · obtain ⟨x, hx, hb⟩ := I.some.1 h
      exact ⟨x, (hmem x).2 (.inl hx), hb⟩
    · rcases (hmem x).1 hx with hx | rfl
      · exact I.some.2 ⟨x, hx, hb⟩
      · exact (ho hb).elim
    · obtain ⟨⟨x, hx, hb, e⟩, l⟩ := I.least h
      refine ⟨⟨x, (hmem x).2 (.inl hx), hb, e⟩, fun y hy hb => ?_⟩
      rcases (hmem y).1 hy with hy | rfl
      · exact l y hy hb
      · exact (ho hb).elim
    · obtain ⟨⟨x, hx, hb, e⟩, l⟩ := I.most h
      refine ⟨⟨x, (hmem x).2 (.inl hx), hb, e⟩, fun y hy hb => ?_⟩
      rcases (hmem y).1 hy with hy | rfl
      · exact l y hy hb
      · exact (ho hb).elim
theorem foldO_inv {b : Int} : ∀ {os done : List (Int × (Int × Int))} {st : (Int × Int) × Bool}, InvO b done st → InvO b (done ++ os) (foldO b os st)
  | [], done, st, I => by rw [List.append_nil]; exact I
  | o :: os, done, st, I => by
    have := foldO_inv (os := os) (I.step o)
    rw [List.append_assoc] at this
    exact this
variable {kerf : Int} {ws ws' : List Int} {kl kl' : List Kd} {kind : Int}
def optsO (kerf : Int) (ws : List Int) (kl : List Kd) (kind : Int) (a b : Nat) : List (Int × (Int × Int)) := (0, (0, 0)) :: ((leavesL a b kl 0).map (leafO ws kind) ++ (cutsL a b).map (cutP kerf ws kl kind a b))
theorem Of_fold (hk : 0 ≤ kerf) {a b : Nat} (ha : 1 ≤ a) (hb : 1 ≤ b) : Of kerf ws kl kind ((a : Int), (b : Int)) = (foldO (V kerf ws kl ((a : Int), (b : Int))) (optsO kerf ws kl kind a b) ((0, 0), false)).1 := by
  rw [Of_eq hk ha hb, addL_foldO, addL_foldO]
  unfold optsO foldO
  rw [List.foldl_cons, List.foldl_append]
theorem opts_some (hk : 0 ≤ kerf) {a b : Nat} (ha : 1 ≤ a) (hb : 1 ≤ b) : ∃ o ∈ optsO kerf ws kl kind a b, o.1 = V kerf ws kl ((a : Int), (b : Int)) := by
  unfold optsO
  rcases V_of hk (ws := ws) (kl := kl) ha hb with h | ⟨x, hx, h⟩ | ⟨x, hx, h⟩
  · exact ⟨_, List.mem_cons_self .., h.symm⟩
  · exact ⟨leafO ws kind x, List.mem_cons_of_mem _ (List.mem_append_left _ (List.mem_map_of_mem hx)), h.symm⟩
  · exact ⟨cutP kerf ws kl kind a b x, List.mem_cons_of_mem _ (List.mem_append_right _ (List.mem_map_of_mem hx)), h.symm⟩
theorem Of_spec (hk : 0 ≤ kerf) {a b : Nat} (ha : 1 ≤ a) (hb : 1 ≤ b) :
    ((∃ o ∈ optsO kerf ws kl kind a b, o.1 = V kerf ws kl ((a : Int), (b : Int)) ∧ (Of kerf ws kl kind ((a : Int), (b : Int))).1 = o.2.1) ∧ ∀ o ∈ optsO kerf ws kl kind a b, o.1 = V kerf ws kl ((a : Int), (b : Int)) → (Of kerf ws kl kind ((a : Int), (b : Int))).1 ≤ o.2.1) ∧
    ((∃ o ∈ optsO kerf ws kl kind a b, o.1 = V kerf ws kl ((a : Int), (b : Int)) ∧ (Of kerf ws kl kind ((a : Int), (b : Int))).2 = o.2.2) ∧ ∀ o ∈ optsO kerf ws kl kind a b, o.1 = V kerf ws kl ((a : Int), (b : Int)) → o.2.2 ≤ (Of kerf ws kl kind ((a : Int), (b : Int))).2) := by
  have I : InvO (V kerf ws kl ((a : Int), (b : Int))) ([] ++ optsO kerf ws kl kind a b) (foldO (V kerf ws kl ((a : Int), (b : Int))) (optsO kerf ws kl kind a b) ((0, 0), false)) :=
    foldO_inv ⟨⟨fun h => (by cases h), fun ⟨x, hx, _⟩ => (by cases hx)⟩, fun h => (by cases h), fun h => (by cases h)⟩
  rw [List.nil_append] at I
  have hs := I.some.2 (opts_some hk ha hb)
  rw [Of_fold hk ha hb]
  exact ⟨I.least hs, I.most hs⟩
theorem opts_cases {a b : Nat} {o : Int × (Int × Int)} (h : o ∈ optsO kerf ws kl kind a b) : o = (0, (0, 0)) ∨ (∃ x ∈ leavesL a b kl 0, o = leafO ws kind x) ∨ ∃ x ∈ cutsL a b, o = cutP kerf ws kl kind a b x := by
  unfold optsO at h
  rcases List.mem_cons.1 h with h | h
  · exact .inl h
  · rcases List.mem_append.1 h with h | h
    · obtain ⟨x, hx, e⟩ := List.mem_map.1 h
      exact .inr (.inl ⟨x, hx, e.symm⟩)
    · obtain ⟨x, hx, e⟩ := List.mem_map.1 h
      exact .inr (.inr ⟨x, hx, e.symm⟩)
theorem Of_le (hk : 0 ≤ kerf) (p : Int × Int) : 0 ≤ (Of kerf ws kl kind p).1 ∧ (Of kerf ws kl kind p).1 ≤ (Of kerf ws kl kind p).2 := by
  refine board_ind hk (P := fun p => 0 ≤ (Of kerf ws kl kind p).1 ∧ (Of kerf ws kl kind p).1 ≤ (Of kerf ws kl kind p).2) (fun p h => ?_) (fun a b ha hb ih => ?_) p
  · show 0 ≤ (Of kerf ws kl kind p).1 ∧ _
    rw [Of_out h]; simp
  · obtain ⟨⟨⟨o, ho, hv, he⟩, _⟩, _, hm⟩ := Of_spec hk (ws := ws) (kl := kl) (kind := kind) ha hb
    have h1 := hm o ho hv
    have h2 : 0 ≤ o.2.1 ∧ o.2.1 ≤ o.2.2 := by
      rcases opts_cases ho with rfl | ⟨x, hx, rfl⟩ | ⟨x, hx, rfl⟩
      · simp
      · unfold leafO; split <;> simp
      · have := ih x hx
        unfold cutP padd
        simp only at this ⊢
        omega
    show 0 ≤ (Of kerf ws kl kind _).1 ∧ (Of kerf ws kl kind _).1 ≤ (Of kerf ws kl kind _).2
    omega
structure Chg (kind : Int) (d : Int) (ws ws' : List Int) : Prop where
  here : ∀ i : Nat, (i : Int) = kind → ws'.getD i 0 = ws.getD i 0 + d
  other : ∀ i : Nat, (i : Int) ≠ kind → ws'.getD i 0 = ws.getD i 0
theorem V_chg (hk : 0 ≤ kerf) {d : Int} (m : Chg kind d ws ws') (p : Int × Int) : V kerf ws kl p + d * (Of kerf ws kl kind p).1 ≤ V kerf ws' kl p ∧ V kerf ws kl p + d * (Of kerf ws kl kind p).2 ≤ V kerf ws' kl p := by
  refine board_ind hk (P := fun p => V kerf ws kl p + d * (Of kerf ws kl kind p).1 ≤ V kerf ws' kl p ∧ V kerf ws kl p + d * (Of kerf ws kl kind p).2 ≤ V kerf ws' kl p) (fun p h => ?_) (fun a b ha hb ih => ?_) p
  · show V kerf ws kl p + d * (Of kerf ws kl kind p).1 ≤ V kerf ws' kl p ∧ V kerf ws kl p + d * (Of kerf ws kl kind p).2 ≤ V kerf ws' kl p
    rw [Of_out h, V_out h, V_out h]; simp
  · have key : ∀ o ∈ optsO kerf ws kl kind a b, o.1 = V kerf ws kl ((a : Int), (b : Int)) → V kerf ws kl ((a : Int), (b : Int)) + d * o.2.1 ≤ V kerf ws' kl ((a : Int), (b : Int)) ∧ V kerf ws kl ((a : Int), (b : Int)) + d * o.2.2 ≤ V kerf ws' kl ((a : Int), (b : Int)) := by
      intro o ho hv
      rw [← hv]
      rcases opts_cases ho with rfl | ⟨x, hx, rfl⟩ | ⟨x, hx, rfl⟩
      · have := V_nonneg hk (ws := ws') (kl := kl) ((a : Int), (b : Int))
        simpa using this
      · have h1 := V_leaf hk (ws := ws') (kl := kl) ha hb hx
        unfold leafO
        by_cases hi : (x.2 : Int) = kind
        · rw [m.here _ hi] at h1
          rw [if_pos hi]
          simp only [Int.mul_one]
          exact ⟨h1, h1⟩
        · rw [m.other _ hi] at h1
          rw [if_neg hi]
          simp only [Int.mul_zero, Int.add_zero]
          exact ⟨h1, h1⟩
      · have h1 := V_cut hk (ws := ws') (kl := kl) ha hb hx
        have h2 := ih x hx
        unfold cutP padd
        simp only at h2 ⊢
        rw [Int.mul_add, Int.mul_add]
        omega
    obtain ⟨⟨⟨o, ho, hv, he⟩, _⟩, ⟨o', ho', hv', he'⟩, _⟩ := Of_spec hk (ws := ws) (kl := kl) (kind := kind) ha hb
    show V kerf ws kl _ + d * (Of kerf ws kl kind _).1 ≤ _ ∧ V kerf ws kl _ + d * (Of kerf ws kl kind _).2 ≤ _
    rw [he, he']
    exact ⟨(key o ho hv).1, (key o' ho' hv').2⟩
theorem Of_idle (hk : 0 ≤ kerf) {k : Nat} (p : Int × Int) : 0 < (Of kerf ws kl k p).2 → V kerf ws kl p ≤ U kerf ws kl k p := by
  refine board_ind hk (P := fun p => 0 < (Of kerf ws kl k p).2 → V kerf ws kl p ≤ U kerf ws kl k p) (fun p h hp => ?_) (fun a b ha hb ih hp => ?_) p
  · rw [Of_out h] at hp; simp at hp
  · show V kerf ws kl _ ≤ U kerf ws kl k _
    obtain ⟨_, ⟨o, ho, hv, he⟩, _⟩ := Of_spec hk (ws := ws) (kl := kl) (kind := (k : Int)) ha hb
    rw [he] at hp
    rw [← hv]
    rcases opts_cases ho with rfl | ⟨x, hx, rfl⟩ | ⟨x, hx, rfl⟩
    · simp at hp
    · unfold leafO at hp ⊢
      by_cases hi : (x.2 : Int) = k
      · have hi' : x.2 = k := by omega
        have := U_leaf hk (ws := ws) (kl := kl) ha hb hx hi'
        rw [hi']; exact this
      · rw [if_neg hi] at hp; simp at hp
    · have h1 := U_cut hk (ws := ws) (kl := kl) (kind := k) ha hb hx
      have h2 := ih x hx
      have h3 := Of_le hk (ws := ws) (kl := kl) (kind := (k : Int)) (oneB x a b)
      have h4 := Of_le hk (ws := ws) (kl := kl) (kind := (k : Int)) (twoB kerf x a b)
      unfold cutP padd at hp ⊢
      simp only at h2 hp ⊢
      by_cases hc : 0 < (Of kerf ws kl k (oneB x a b)).2
      · have := h2.1 hc; omega
      · have := h2.2 (by omega); omega
theorem leaves_of {a b : Nat} : ∀ {l : List Kd} {i : Nat} {x : Nat × Nat}, x ∈ leavesL a b l i → i ≤ x.2 ∧ ∃ k, l[x.2 - i]? = some k ∧ x ∈ leafAt k x.2 a b
  | [], _, _, h => by cases h
  | k :: l, i, x, h => by
    simp only [leavesL, List.mem_append] at h
    rcases h with h | h
    · have e := leafAt_idx x h
      refine ⟨by omega, k, by rw [e, Nat.sub_self]; rfl, by rw [e]; exact h⟩
    · obtain ⟨h1, k', h2, h3⟩ := leaves_of h
      refine ⟨by omega, k', ?_, h3⟩
      rw [show x.2 - i = (x.2 - (i + 1)) + 1 by omega]
      exact h2
theorem leafAt_shift {k k' : Kd} {i j a b : Nat} {x : Nat × Nat} (hs : k.w = k'.w ∧ k.h = k'.h ∧ k.turn = k'.turn) (h : x ∈ leafAt k i a b) : (x.1, j) ∈ leafAt k' j a b := by
  unfold leafAt at h ⊢
  rw [← hs.1, ← hs.2.1, ← hs.2.2]
  simp only [List.mem_append] at h ⊢
  rcases h with h | h
  · left
    split at h
    · rename_i hc
      rw [if_pos hc]
      simp only [List.mem_singleton] at h ⊢
      rw [h]
    · cases h
  · right
    split at h
    · rename_i hc
      rw [if_pos hc]
      simp only [List.mem_singleton] at h ⊢
      rw [h]
    · cases h
theorem ws_get {l : List Kd} {i : Nat} {k : Kd} (h : l[i]? = some k) : (wsOf l).getD i 0 = k.worth := by simp [wsOf, List.getD, h]
theorem V_kinds (hk : 0 ≤ kerf) {l m : List Kd} (h : ∀ k ∈ l, ∃ k' ∈ m, (k.w = k'.w ∧ k.h = k'.h ∧ k.turn = k'.turn) ∧ k.worth ≤ k'.worth) (p : Int × Int) : V kerf (wsOf l) l p ≤ V kerf (wsOf m) m p := by
  refine board_ind hk (P := fun p => V kerf (wsOf l) l p ≤ V kerf (wsOf m) m p) (fun p h => ?_) (fun a b ha hb ih => ?_) p
  · show V kerf (wsOf l) l p ≤ V kerf (wsOf m) m p
    rw [V_out h, V_out h]; omega
  · show V kerf (wsOf l) l _ ≤ V kerf (wsOf m) m _
    rcases V_of hk (ws := wsOf l) (kl := l) ha hb with e | ⟨x, hx, e⟩ | ⟨x, hx, e⟩
    · rw [e]; exact V_nonneg hk _
    · obtain ⟨_, k, h1, h2⟩ := leaves_of hx
      rw [Nat.sub_zero] at h1
      obtain ⟨k', hk', hs, hw⟩ := h k (List.mem_of_getElem? h1)
      obtain ⟨j, hj⟩ := List.mem_iff_getElem?.1 hk'
      have h3 := V_leaf hk (ws := wsOf m) (kl := m) ha hb (leaves_mem hj _ (leafAt_shift (j := j) hs h2))
      simp only at h3
      rw [ws_get hj] at h3
      rw [e, ws_get h1]
      omega
    · have h1 := V_cut hk (ws := wsOf m) (kl := m) ha hb hx
      have h2 := ih x hx
      try simp only at h2
      omega
theorem V_erase (hk : 0 ≤ kerf) {l : List Kd} {k : Nat} (p : Int × Int) : V kerf (wsOf l) l p ≤ V kerf (wsOf (l.eraseIdx k)) (l.eraseIdx k) p ∨ V kerf (wsOf l) l p ≤ U kerf (wsOf l) l k p := by
  refine board_ind hk (P := fun p => V kerf (wsOf l) l p ≤ V kerf (wsOf (l.eraseIdx k)) (l.eraseIdx k) p ∨ V kerf (wsOf l) l p ≤ U kerf (wsOf l) l k p) (fun p h => ?_) (fun a b ha hb ih => ?_) p
  · left
    show V kerf (wsOf l) l p ≤ V kerf (wsOf (l.eraseIdx k)) (l.eraseIdx k) p
    rw [V_out h, V_out h]; omega
  · show V kerf (wsOf l) l _ ≤ V kerf (wsOf (l.eraseIdx k)) (l.eraseIdx k) _ ∨ V kerf (wsOf l) l _ ≤ U kerf (wsOf l) l k _
    rcases V_of hk (ws := wsOf l) (kl := l) ha hb with e | ⟨x, hx, e⟩ | ⟨x, hx, e⟩
    · left; rw [e]; exact V_nonneg hk _
    · by_cases hi : x.2 = k
      · right; rw [e, hi]; exact U_leaf hk ha hb hx hi
      · left
        obtain ⟨_, kd, h1, h2⟩ := leaves_of hx
        rw [Nat.sub_zero] at h1
        have hm : kd ∈ l.eraseIdx k := List.mem_eraseIdx_iff_getElem?.2 ⟨x.2, hi, h1⟩
        obtain ⟨j, hj⟩ := List.mem_iff_getElem?.1 hm
        have h3 := V_leaf hk (ws := wsOf (l.eraseIdx k)) (kl := l.eraseIdx k) ha hb (leaves_mem hj _ (leafAt_shift (j := j) ⟨rfl, rfl, rfl⟩ h2))
        simp only at h3
        rw [ws_get hj] at h3
        rw [e, ws_get h1]
        exact h3
    · have h1 := V_cut hk (ws := wsOf (l.eraseIdx k)) (kl := l.eraseIdx k) ha hb hx
      have h2 := ih x hx
      have h4 := U_cut hk (ws := wsOf l) (kl := l) (kind := k) ha hb hx
      try simp only at h2
      omega
end Go.A.Pk
end
section
namespace Go.A.Pk
theorem oftenL_bd {kerf kind : Int} {ws : List Int} {kl : List Kd} {u : Tab} {W : Int} (hW : 0 ≤ W ∧ W ≤ 1000000000) (hk : 0 ≤ kerf) (hu : Bd W u) : ∀ (xs : List (Nat × Nat)) (t : TabO), (∀ x ∈ xs, (1 ≤ x.1 ∧ x.1 < 1000) ∧ (1 ≤ x.2 ∧ x.2 < 1000)) → BdO t → BdO (xs.foldl (fun t x => updG t x (oftenS kerf ws kl kind u t x.1 x.2).1) t)
  | [], _, _, ht => ht
  | x :: xs, t, hx, ht => by
    have h := hx x (List.mem_cons_self ..)
    exact oftenL_bd hW hk hu xs _ (fun y hy => hx y (List.mem_cons_of_mem _ hy)) (ht.upd ⟨h.1.1, h.2.1⟩ (oftenS_bd hW hk hu ht h.1.2 h.2.2 h.1.1 h.2.1))
theorem Of_bd {kerf kind : Int} {l : List Kd} (hc : chk kerf l = 0) {w ht : Int} (hb : OnB w ht) : 0 ≤ (Of kerf (wsOf l) l kind (w, ht)).1 ∧ (Of kerf (wsOf l) l kind (w, ht)).1 ≤ (Of kerf (wsOf l) l kind (w, ht)).2 ∧ (Of kerf (wsOf l) l kind (w, ht)).2 ≤ 256 := by
  obtain ⟨q1, q2, q3, q4⟩ := chk_iff.1 hc
  obtain ⟨⟨e1, e2⟩, e3, e4⟩ := hb
  obtain ⟨w, rfl⟩ := Int.eq_ofNat_of_zero_le (show 0 ≤ w by omega)
  obtain ⟨ht, rfl⟩ := Int.eq_ofNat_of_zero_le (show 0 ≤ ht by omega)
  have h1 := Of_le q2.1 (ws := wsOf l) (kl := l) (kind := kind) ((w : Int), (ht : Int))
  refine ⟨h1.1, h1.2, ?_⟩
  have hU : Bd 1000000 (tabL kerf (wsOf l) l (boardsL w ht)) := tabL_bd (by omega) q2.1 (wsOf_bd hc) _ _ (fun x hx => by have := boards_of hx; omega) (fun e he => by cases he)
  have hB : BdO (oftenL kerf (wsOf l) l kind (tabL kerf (wsOf l) l (boardsL w ht)) (boardsL w ht)) := oftenL_bd (W := 1000000) (by omega) q2.1 hU (boardsL w ht) [] (fun x hx => by have := boards_of hx; omega) ⟨fun e he => (by cases he), fun e he => (by cases he)⟩
  have h2 := look_bd ((w : Int), (ht : Int)) hB.2
  rw [look_tab2, often_Of q2.1 (by omega) (by omega)] at h2
  have h3 := area_mono (W := 1) (a := (w : Int)) (b := (ht : Int)) (c := 16) (d := 16) (by omega) (by omega) (by omega) (by omega) (by omega)
  rcases h2 with h2 | h2
  · omega
  · have := h2.2.2.2
    simp only at this
    omega
theorem best_chg {kerf : Int} {l : List Kd} (hk0 : 0 ≤ kerf) {k : Nat} (hk : k < l.length) {w ht : Int} (hb : OnB w ht) (d : Int) :
    bestV kerf l w ht + d * (Of kerf (wsOf l) l k (w, ht)).1 ≤ bestV kerf (raise l k ((wsOf l).getD k 0 + d)) w ht ∧ bestV kerf l w ht + d * (Of kerf (wsOf l) l k (w, ht)).2 ≤ bestV kerf (raise l k ((wsOf l).getD k 0 + d)) w ht ∧
      (0 ≤ d → bestV kerf l w ht ≤ bestV kerf (raise l k ((wsOf l).getD k 0 + d)) w ht) ∧ (d ≤ 0 → bestV kerf (raise l k ((wsOf l).getD k 0 + d)) w ht ≤ bestV kerf l w ht) := by
  obtain ⟨⟨e1, e2⟩, e3, e4⟩ := hb
  have hl : k < (wsOf l).length := by simpa [wsOf] using hk
  have hm : Chg (k : Int) d (wsOf l) ((wsOf l).set k ((wsOf l).getD k 0 + d)) := ⟨fun i hi => by
    obtain rfl : i = k := by omega
    simp [List.getD, hl], fun i hi => by
    have : k ≠ i := fun e => hi (by omega)
    simp [List.getD, List.getElem?_set_ne this]⟩
  have eV : bestV kerf (raise l k ((wsOf l).getD k 0 + d)) w ht = V kerf ((wsOf l).set k ((wsOf l).getD k 0 + d)) l (w, ht) := by
    rw [bestV_eq hk0 e1 e3]
    show V kerf (wsOf (raise l k _)) _ _ = _
    rw [raise_ws]
    exact VF_shape (fun a b => leavesL_shape (raise_shape l k _)) _ _
  have eB : bestV kerf l w ht = V kerf (wsOf l) l (w, ht) := bestV_eq hk0 e1 e3
  rw [eV, eB]
  have h := V_chg hk0 (kl := l) hm (w, ht)
  refine ⟨h.1, h.2, fun h0 => V_mono hk0 (fun i => ?_) _, fun h0 => V_mono hk0 (fun i => ?_) _⟩
  · by_cases e : (i : Int) = k
    · rw [hm.here i e]; omega
    · rw [hm.other i e]; omega
  · by_cases e : (i : Int) = k
    · rw [hm.here i e]; omega
    · rw [hm.other i e]; omega
theorem best_more {kerf : Int} {l : List Kd} (hk0 : 0 ≤ kerf) {w ht : Int} (hb : OnB w ht) (x : Kd) : bestV kerf l w ht ≤ bestV kerf (l ++ [x]) w ht := by
  obtain ⟨⟨e1, e2⟩, e3, e4⟩ := hb
  rw [bestV_eq hk0 e1 e3, bestV_eq hk0 e1 e3]
  exact V_kinds hk0 (fun k hk => ⟨k, List.mem_append_left _ hk, ⟨rfl, rfl, rfl⟩, Int.le_refl _⟩) _
theorem best_fewer {kerf : Int} {l : List Kd} (hc : chk kerf l = 0) {k : Nat} (hk : k < l.length) {w ht : Int} (hb : OnB w ht) : bestV kerf (l.eraseIdx k) w ht ≤ bestV kerf l w ht ∧ ((k : Int) ∈ idleL kerf l w ht → bestV kerf (l.eraseIdx k) w ht = bestV kerf l w ht ∧ (Of kerf (wsOf l) l k (w, ht)).2 = 0) := by
  have hk0 := (chk_iff.1 hc).2.1.1
  have hb0 := hb
  obtain ⟨⟨e1, e2⟩, e3, e4⟩ := hb0
  have h1 : bestV kerf (l.eraseIdx k) w ht ≤ bestV kerf l w ht := by
    rw [bestV_eq hk0 e1 e3, bestV_eq hk0 e1 e3]
    exact V_kinds hk0 (fun x hx => ⟨x, List.mem_of_mem_eraseIdx hx, ⟨rfl, rfl, rfl⟩, Int.le_refl _⟩) _
  refine ⟨h1, fun hi => ?_⟩
  have hlt := (kw_lt hc hb hk).1 hi
  have eU : kw kerf l k (w, ht) 0 = U kerf (wsOf l) l k (w, ht) := by unfold kw; rw [wsM_zero hk]
  have eV : kb kerf l k (w, ht) 0 = V kerf (wsOf l) l (w, ht) := by unfold kb; rw [wsM_zero hk]
  rw [eU, eV] at hlt
  constructor
  · rw [bestV_eq hk0 e1 e3, bestV_eq hk0 e1 e3] at h1 ⊢
    have h2 := V_erase hk0 (l := l) (k := k) (w, ht)
    change V kerf (wsOf (l.eraseIdx k)) _ _ ≤ V kerf (wsOf l) _ _ at h1
    show V kerf (wsOf (l.eraseIdx k)) _ _ = V kerf (wsOf l) _ _
    omega
  · have h3 := Of_idle hk0 (ws := wsOf l) (kl := l) (k := k) (w, ht)
    have h4 := Of_le hk0 (ws := wsOf l) (kl := l) (kind := (k : Int)) (w, ht)
    by_cases hp : 0 < (Of kerf (wsOf l) l k (w, ht)).2
    · have := h3 hp; omega
    · omega
end Go.A.Pk
end
section
set_option maxRecDepth 100000
namespace Go.A.Pk
variable {T : Nat → Option AFunc}
theorem m_mul {a b : Int} (h1 : -9223372036854775808 ≤ a * b) (h2 : a * b < 9223372036854775808) : numOp .mul (.int .i64 a) (.int .i64 b) = some (.int .i64 (a * b)) := by
  simp [numOp, arith, wrapA_i64 h1 h2]
structure FnsM (T : Nat → Option AFunc) : Prop extends FnsU T, FnsO3 T, FnsH T where
  f14 : T 14 = some f14
  c19 : ∀ {h : Heap}, Rdy h → Pu T 19 [] h (.bool true)
theorem prod_bd {b n : Int} (hb : 0 ≤ b ∧ b ≤ 1000000) (hn : 0 ≤ n ∧ n ≤ 256) : 0 ≤ b * n ∧ b * n ≤ 256000000 :=
  ⟨Int.mul_nonneg hb.1 hn.1, Int.le_trans (Int.mul_le_mul_of_nonneg_right hb.2 hn.1) (Int.le_trans (Int.mul_le_mul_of_nonneg_left hn.2 (by omega)) (by omega))⟩
def tail15 : ACode := cR (cR (cR (cR (cR (cR (cR (cR (cR (cR (cR (cR (cR (cR (cR (codeOf f14)))))))))))))))
set_option maxHeartbeats 8000000 in
theorem more_down (F : FnsM T) {base p6 : Nat} {H : Heap} (hw : WF H) (hlog : H.log = []) (hp6 : p6 < H.next) (hbase : base ≤ H.next) {a : Option Addr} {c k : Nat} {l : List Kd} {kerf w ht up : Int} (g6 : H.get p6 = some (.cells [.slice a l.length c, .int .i64 kerf] true 1)) (hs : SliceOf H 5 (.slice a l.length c) l.length (kcs l)) (hn : l.length < 1000000) (hc : chk kerf l = 0) (hb : OnB w ht) (hk : k < l.length) (hup : 0 ≤ up ∧ up ≤ 1000000) {rest : Env} :
    WE T base none tail15 (endP [(12, none)] (.bool true)) ((1, .int .i64 w) :: (2, .int .i64 ht) :: (3, .int .i64 k) :: (4, .int .i64 up) :: (6, .pointer (some ⟨p6, 0, none⟩)) :: (13, .int .i64 (bestV kerf l w ht)) :: (15, .int .i64 (Of kerf (wsOf l) l k (w, ht)).1) :: (16, .int .i64 (Of kerf (wsOf l) l k (w, ht)).2) :: rest) [] H := by
  have hp := F.toFnsT.toFnsV.p
  have hxk : l[k]? = some l[k] := List.getElem?_eq_getElem hk
  have hwk : (wsOf l).getD k 0 = l[k].worth := by simp [wsOf, List.getD, hk]
  have hwb := wsOf_bd hc l[k].worth (List.mem_map.2 ⟨_, List.getElem_mem hk, rfl⟩)
  have hik : asked kerf l (0 ≤ (k : Int) ∧ (k : Int) < (l.length : Int)) = 0 := asked_ok hc (by omega)
  have hO := Of_bd (kind := (k : Int)) hc hb
  have hV := bestV_bd hc hb
  have hG := best_chg (chk_iff.1 hc).2.1.1 hk hb (-up)
  rw [hwk] at hG
  generalize l[k] = x at *
  rcases hs.inv with ⟨_, _, h0, _⟩ | ⟨b, o, cap, hv, sl, hcap⟩
  · omega
  cases hv
  obtain ⟨vs, own, t, g3, g5⟩ := slice_elem sl hxk
  have e3 : lget vs (o + k * 5 + 3) = some (.int .i64 x.worth) := elem_get g5 3 (by omega)
  have kb2 := WF.get_lt hw g3
  unfold tail15
  simp only [cR, codeOf, f14]
  refine wE_seq ?_; refine wE_draw ?_; refine qN ?_; refine qM ?_; refine qF ?_
  refine qL ?_; refine qM ?_; refine wD_quiet rfl rfl rfl (by exact rfl) (by exact rfl) (by exact rfl) (a_iaddrS (by exact rfl) (by exact rfl) (by omega)) ?_
  refine qF ?_; refine wD_quiet rfl rfl rfl (by exact rfl) (by exact rfl) (by exact rfl) (a_load (by exact rfl) (by assumption) (by assumption)) ?_; refine qM ?_
  refine wD_quiet rfl rfl rfl (by exact rfl) (by exact rfl) (by exact rfl) (a_num (by exact rfl) (by exact rfl) (by exact m_sub (wrapA_i64 (by omega) (by omega)))) ?_
  refine wD_new rfl rfl rfl (by exact rfl) (by exact rfl) (by exact rfl) a_new (by refine rs_cons (rq_quiet rfl (a_num (by exact rfl) (by exact rfl) (by exact m_sub (wrapA_i64 (by omega) (by omega)))) (by exact sv_int _ _)) ?_; refine rs_cons (rq_quiet rfl (a_mov (by exact rfl)) (by exact sv_int _ _)) ?_; refine rs_cons (rq_quiet rfl (a_load (by exact rfl) (by (simp (disch := first | omega | (simp only [z1, z2]; omega)) only [z3, z4, z5, z6, z7, z1, z2, *]; exact rfl)) (by assumption)) (by exact sv_int _ _)) ?_; refine rs_cons (rq_quiet rfl (a_faddr (by exact rfl)) (by exact sv_ptr _)) ?_; refine rs_cons (rq_quiet rfl (a_iaddrS (by exact rfl) (by exact rfl) (by omega)) (by exact sv_ptr _)) ?_; refine rs_cons (rq_quiet rfl (a_mov (by exact rfl)) (by exact sv_int _ _)) ?_; refine rs_cons (rq_quiet rfl (a_load (by exact rfl) (by (simp (disch := first | omega | (simp only [z1, z2]; omega)) only [z3, z4, z5, z6, z7, z1, z2, *]; exact rfl)) (by exact rfl)) (by exact sv_slice _ _ _)) ?_; refine rs_cons (rq_quiet rfl (a_faddr (by exact rfl)) (by exact sv_ptr _)) ?_; refine rs_cons (rq_quiet rfl (a_mov (by exact rfl)) (by exact sv_int _ _)) ?_; refine rs_cons (rq_quiet rfl (a_loadN (by exact rfl) (by (simp (disch := first | omega | (simp only [z1, z2]; omega)) only [z3, z4, z5, z6, z7, z1, z2, *]; exact rfl)) (by exact rfl) (by exact rfl)) (by exact sv_agg (by refine sl_cons (s1_slice _ _ _) ?_; refine sl_cons (s1_int _ _) ?_; exact sl_nil))) ?_; exact rs_nil) ?_
  refine qC ?_
  have hy := (Ext.refl H).push (.cells [.slice none 0 0, .int .i64 0] true 1)
  refine FW.alD (al_mono (raised59 F.toFnsH (.of (hy.wf hw)) ((hs.ext hy).log []) kerf hn k (x.worth - up)) fun v h' q => orErr_change q) (fun v h' m q => SawQ.log v h' m q) ?_
  rintro _ h2 hx2 ⟨s2, rfl, q2⟩
  have kN : H.next < h2.next := hx2.next
  have G6 : h2.get p6 = some (.cells [.slice (some ⟨b, o, none⟩) l.length c, .int .i64 kerf] true 1) := by rw [hx2.old _ (by (simp only [z1, z2]; omega))]; (simp (disch := first | omega | (simp only [z1, z2]; omega)) only [z3, z4, z5, z6, z7, z1, z2, *]; done)
  have G3 : h2.get b = some (.cells vs own t) := by rw [hx2.old _ (by (simp only [z1, z2]; omega))]; (simp (disch := first | omega | (simp only [z1, z2]; omega)) only [z3, z4, z5, z6, z7, z1, z2, *]; done)
  have G5 : h2.get H.next = some (.cells [.slice none 0 0, .int .i64 0] true 1) := by rw [hx2.old _ (by (simp only [z1, z2]; omega))]; (simp (disch := first | omega | (simp only [z1, z2]; omega)) only [z3, z4, z5, z6, z7, z1, z2, *]; done)
  have hx12 := hy.trans hx2
  rw [show x.worth + -up = x.worth - up by omega] at hG
  by_cases hj : chk kerf (raise l k (x.worth - up)) = 0
  · simp only [hik, hj, ↓reduceIte] at q2 ⊢
    rw [raise_len] at q2
    obtain ⟨a2, c2, rfl⟩ := q2.form
    refine ⟨_, by apply ra_keepC rfl (rq_made rfl) (by rfl); apply ra_dropC rfl; apply ra_dropC rfl; apply ra_dropC rfl; apply ra_dropC rfl; apply ra_dropC rfl; apply ra_dropC rfl; apply ra_dropC rfl; apply ra_dropC rfl; apply ra_dropC rfl; apply ra_dropC rfl; exact ra_nil, ?_⟩
    have hxB : Ext H (h2.wr base H.next (.cells (lputs [.slice none 0 0, .int .i64 0] 0 (cellsOf (.agg #[.slice a2 l.length c2, .int .i64 kerf]))) true 1)) := hx12.wr (Nat.le_refl _) hbase
    refine qM ?_; refine qE ?_; refine qE ?_
    refine wD_store rfl rfl rfl (by exact rfl) (by exact rfl) (by exact rfl) (by assumption) (by exact rfl) (by exact rfl) (by omega) (by omega) (by apply ra_keepC rfl (rq_quiet rfl (a_extract (by exact rfl) (by exact rfl)) (by exact sv_int _ _)) rfl; apply ra_dropC rfl; apply ra_dropC rfl; apply ra_dropC rfl; exact ra_nil) ?_
    refine qM ?_; refine wD_nil ?_; refine y1 ?_; refine kS_n ?_; refine wE_seq ?_; refine y4 ?_; refine yM ?_
    refine yt ?_; refine y3 ?_; refine yY ?_; refine y4 ?_
    refine yN ?_; refine yM ?_; refine yM ?_
    refine WO.gen ?_
    intro hA hAe
    have hxA : Ext H hA := by rw [hAe]; exact hxB
    have A5 : hA.get H.next = some (.cells [.slice a2 l.length c2, .int .i64 kerf] true 1) := by rw [hAe]; exact Heap.get_wr_new G5
    have hNA : h2.next = hA.next := by rw [hAe]; rfl
    have qA : SliceOf hA 5 (.slice a2 l.length c2) l.length (kcs (raise l k (x.worth - up))) := by rw [hAe]; exact q2.small G5 (by show 2 < l.length * 5; omega)
    clear hAe hxB hx12 hx2 G3 G5 G6 q2
    have hwA := hxA.wf hw
    have hlA := hxA.log.trans hlog
    have gA := (hxA.old p6 hp6).trans g6
    have hsA := hs.ext hxA
    have C5 := best32 F.toFnsW (.of hwA) (qA.log []) kerf hn w ht
    rw [bestR_ok (asked_ok hj hb)] at C5
    have hV2 := bestV_bd hj hb
    have hP := prod_bd hup ⟨hO.1, Int.le_trans hO.2.1 hO.2.2⟩
    have g1 := hG.1
    have g2 := hG.2.2.2 (by omega)
    rw [Int.neg_mul] at g1
    generalize bestV kerf (raise l k (x.worth - up)) w ht = m at *
    generalize bestV kerf l w ht = n at *
    generalize hpr : up * (Of kerf (wsOf l) l k (w, ht)).1 = pr at *
    generalize hO1 : (Of kerf (wsOf l) l k (w, ht)).1 = o1 at *
    generalize hO2 : (Of kerf (wsOf l) l k (w, ht)).2 = o2 at *
    clear hG
    refine yC ?_
    refine FW.pu C5 ?_
    refine yM ?_; refine yE ?_; refine yE ?_; refine yM ?_; refine yM ?_; refine y3 ?_; refine y4 ?_; refine yM ?_; refine yf ?_; refine yM ?_; refine yO ?_; refine yM ?_; refine yO ?_; refine yM ?_; refine yO ?_
    refine yM ?_; refine yO ?_; refine yM ?_; refine yO ?_
    refine wO_val (a_num (by exact rfl) (by exact rfl) (m_mul (by rw [hpr]; omega) (by rw [hpr]; omega))) ?_
    rw [hpr]
    refine yO ?_; refine ysub ?_; refine yO ?_; refine yf ?_; refine yU ?_; refine yM ?_; refine yO ?_
    refine yM ?_; refine yO ?_; refine yM ?_; refine yO ?_; refine yf ?_; refine yU ?_; refine y3 ?_; refine yX ?_; refine wE_skip ?_; refine kS_n ?_; refine y4 ?_
    refine yC ?_
    refine FW.pu (F.c19 (.of hwA)) ?_
    refine yM ?_; refine yO ?_; refine yM ?_; refine yO ?_; refine yM ?_; refine yO ?_; refine yt ?_; refine yT ?_; refine yM ?_
    refine y3 ?_; refine wE_ret ?_
    exact endP_ret hlA rfl rfl
  · simp only [hik, hj, ↓reduceIte] at q2 ⊢
    obtain ⟨a2, c2, rfl⟩ := q2.form
    refine ⟨_, by apply ra_keepC rfl (rq_made rfl) (by rfl); apply ra_dropC rfl; apply ra_dropC rfl; apply ra_dropC rfl; apply ra_dropC rfl; apply ra_dropC rfl; apply ra_dropC rfl; apply ra_dropC rfl; apply ra_dropC rfl; apply ra_dropC rfl; apply ra_dropC rfl; exact ra_nil, ?_⟩
    have hxB : Ext H (h2.wr base H.next (.cells (lputs [.slice none 0 0, .int .i64 0] 0 (cellsOf (.agg #[.slice a2 (List.length ([] : List Kd)) c2, .int .i64 0]))) true 1)) := hx12.wr (Nat.le_refl _) hbase
    refine qM ?_; refine qE ?_; refine qE ?_
    refine wD_store rfl rfl rfl (by exact rfl) (by exact rfl) (by exact rfl) (by assumption) (by exact rfl) (by exact rfl) (by omega) (by omega) (by apply ra_keepC rfl (rq_quiet rfl (a_extract (by exact rfl) (by exact rfl)) (by exact sv_int _ _)) rfl; apply ra_dropC rfl; apply ra_dropC rfl; apply ra_dropC rfl; exact ra_nil) ?_
    refine qM ?_; refine wD_nil ?_; refine y1 ?_; refine kS_n ?_; refine wE_seq ?_; refine y4 ?_; refine yM ?_
    refine yf ?_; refine y3 ?_; refine yX ?_; refine wE_skip ?_; refine kS_n ?_; refine y4 ?_
    refine yC ?_
    refine FW.pu (F.c19 (.of (hxB.wf hw))) ?_
    refine yM ?_; refine yO ?_; refine yM ?_; refine yO ?_; refine yM ?_; refine yO ?_; refine yt ?_; refine yT ?_; refine yM ?_
    refine y3 ?_; refine wE_ret ?_
    exact endP_ret (hxB.log.trans hlog) rfl rfl
def tail13 : ACode := cR (cR (cR (cR (cR (cR (cR (cR (cR (cR (cR (cR (cR (codeOf f14)))))))))))))
set_option maxHeartbeats 8000000 in
theorem more_up (F : FnsM T) {base p6 : Nat} {H : Heap} (hw : WF H) (hlog : H.log = []) (hp6 : p6 < H.next) (hbase : base ≤ H.next) {a : Option Addr} {c k : Nat} {l : List Kd} {kerf w ht up : Int} (g6 : H.get p6 = some (.cells [.slice a l.length c, .int .i64 kerf] true 1)) (hs : SliceOf H 5 (.slice a l.length c) l.length (kcs l)) (hn : l.length < 1000000) (hc : chk kerf l = 0) (hb : OnB w ht) (hk : k < l.length) (hup : 0 ≤ up ∧ up ≤ 1000000) {rest : Env} :
    WE T base none tail13 (endP [(12, none)] (.bool true)) ((1, .int .i64 w) :: (2, .int .i64 ht) :: (3, .int .i64 k) :: (4, .int .i64 up) :: (6, .pointer (some ⟨p6, 0, none⟩)) :: (13, .int .i64 (bestV kerf l w ht)) :: (15, .int .i64 (Of kerf (wsOf l) l k (w, ht)).1) :: (16, .int .i64 (Of kerf (wsOf l) l k (w, ht)).2) :: rest) [] H := by
  have hp := F.toFnsT.toFnsV.p
  have hxk : l[k]? = some l[k] := List.getElem?_eq_getElem hk
  have hwk : (wsOf l).getD k 0 = l[k].worth := by simp [wsOf, List.getD, hk]
  have hwb := wsOf_bd hc l[k].worth (List.mem_map.2 ⟨_, List.getElem_mem hk, rfl⟩)
  have hik : asked kerf l (0 ≤ (k : Int) ∧ (k : Int) < (l.length : Int)) = 0 := asked_ok hc (by omega)
  have hO := Of_bd (kind := (k : Int)) hc hb
  have hV := bestV_bd hc hb
  have hG := best_chg (chk_iff.1 hc).2.1.1 hk hb (up)
  rw [hwk] at hG
  generalize l[k] = x at *
  rcases hs.inv with ⟨_, _, h0, _⟩ | ⟨b, o, cap, hv, sl, hcap⟩
  · omega
  cases hv
  obtain ⟨vs, own, t, g3, g5⟩ := slice_elem sl hxk
  have e3 : lget vs (o + k * 5 + 3) = some (.int .i64 x.worth) := elem_get g5 3 (by omega)
  have kb2 := WF.get_lt hw g3
  unfold tail13
  simp only [cR, codeOf, f14]
  refine wE_seq ?_; refine wE_draw ?_; refine qN ?_; refine qM ?_; refine qF ?_
  refine qL ?_; refine qM ?_; refine wD_quiet rfl rfl rfl (by exact rfl) (by exact rfl) (by exact rfl) (a_iaddrS (by exact rfl) (by exact rfl) (by omega)) ?_
  refine qF ?_; refine wD_quiet rfl rfl rfl (by exact rfl) (by exact rfl) (by exact rfl) (a_load (by exact rfl) (by assumption) (by assumption)) ?_; refine qM ?_
  refine wD_quiet rfl rfl rfl (by exact rfl) (by exact rfl) (by exact rfl) (a_num (by exact rfl) (by exact rfl) (by exact m_add (wrapA_i64 (by omega) (by omega)))) ?_
  refine wD_new rfl rfl rfl (by exact rfl) (by exact rfl) (by exact rfl) a_new (by refine rs_cons (rq_quiet rfl (a_num (by exact rfl) (by exact rfl) (by exact m_add (wrapA_i64 (by omega) (by omega)))) (by exact sv_int _ _)) ?_; refine rs_cons (rq_quiet rfl (a_mov (by exact rfl)) (by exact sv_int _ _)) ?_; refine rs_cons (rq_quiet rfl (a_load (by exact rfl) (by (simp (disch := first | omega | (simp only [z1, z2]; omega)) only [z3, z4, z5, z6, z7, z1, z2, *]; exact rfl)) (by assumption)) (by exact sv_int _ _)) ?_; refine rs_cons (rq_quiet rfl (a_faddr (by exact rfl)) (by exact sv_ptr _)) ?_; refine rs_cons (rq_quiet rfl (a_iaddrS (by exact rfl) (by exact rfl) (by omega)) (by exact sv_ptr _)) ?_; refine rs_cons (rq_quiet rfl (a_mov (by exact rfl)) (by exact sv_int _ _)) ?_; refine rs_cons (rq_quiet rfl (a_load (by exact rfl) (by (simp (disch := first | omega | (simp only [z1, z2]; omega)) only [z3, z4, z5, z6, z7, z1, z2, *]; exact rfl)) (by exact rfl)) (by exact sv_slice _ _ _)) ?_; refine rs_cons (rq_quiet rfl (a_faddr (by exact rfl)) (by exact sv_ptr _)) ?_; refine rs_cons (rq_quiet rfl (a_mov (by exact rfl)) (by exact sv_int _ _)) ?_; refine rs_cons (rq_quiet rfl (a_loadN (by exact rfl) (by (simp (disch := first | omega | (simp only [z1, z2]; omega)) only [z3, z4, z5, z6, z7, z1, z2, *]; exact rfl)) (by exact rfl) (by exact rfl)) (by exact sv_agg (by refine sl_cons (s1_slice _ _ _) ?_; refine sl_cons (s1_int _ _) ?_; exact sl_nil))) ?_; exact rs_nil) ?_
  refine qC ?_
  have hy := (Ext.refl H).push (.cells [.slice none 0 0, .int .i64 0] true 1)
  refine FW.alD (al_mono (raised59 F.toFnsH (.of (hy.wf hw)) ((hs.ext hy).log []) kerf hn k (x.worth + up)) fun v h' q => orErr_change q) (fun v h' m q => SawQ.log v h' m q) ?_
  rintro _ h2 hx2 ⟨s2, rfl, q2⟩
  have kN : H.next < h2.next := hx2.next
  have G6 : h2.get p6 = some (.cells [.slice (some ⟨b, o, none⟩) l.length c, .int .i64 kerf] true 1) := by rw [hx2.old _ (by (simp only [z1, z2]; omega))]; (simp (disch := first | omega | (simp only [z1, z2]; omega)) only [z3, z4, z5, z6, z7, z1, z2, *]; done)
  have G3 : h2.get b = some (.cells vs own t) := by rw [hx2.old _ (by (simp only [z1, z2]; omega))]; (simp (disch := first | omega | (simp only [z1, z2]; omega)) only [z3, z4, z5, z6, z7, z1, z2, *]; done)
  have G5 : h2.get H.next = some (.cells [.slice none 0 0, .int .i64 0] true 1) := by rw [hx2.old _ (by (simp only [z1, z2]; omega))]; (simp (disch := first | omega | (simp only [z1, z2]; omega)) only [z3, z4, z5, z6, z7, z1, z2, *]; done)
  have hx12 := hy.trans hx2
  by_cases hj : chk kerf (raise l k (x.worth + up)) = 0
  · simp only [hik, hj, ↓reduceIte] at q2 ⊢
    rw [raise_len] at q2
    obtain ⟨a2, c2, rfl⟩ := q2.form
    refine ⟨_, by apply ra_keepC rfl (rq_made rfl) (by rfl); apply ra_dropC rfl; apply ra_dropC rfl; apply ra_dropC rfl; apply ra_dropC rfl; apply ra_dropC rfl; apply ra_dropC rfl; apply ra_dropC rfl; apply ra_dropC rfl; apply ra_dropC rfl; apply ra_dropC rfl; exact ra_nil, ?_⟩
    have hxB : Ext H (h2.wr base H.next (.cells (lputs [.slice none 0 0, .int .i64 0] 0 (cellsOf (.agg #[.slice a2 l.length c2, .int .i64 kerf]))) true 1)) := hx12.wr (Nat.le_refl _) hbase
    refine qM ?_; refine qE ?_; refine qE ?_
    refine wD_store rfl rfl rfl (by exact rfl) (by exact rfl) (by exact rfl) (by assumption) (by exact rfl) (by exact rfl) (by omega) (by omega) (by apply ra_keepC rfl (rq_quiet rfl (a_extract (by exact rfl) (by exact rfl)) (by exact sv_int _ _)) rfl; apply ra_dropC rfl; apply ra_dropC rfl; apply ra_dropC rfl; exact ra_nil) ?_
    refine qM ?_; refine wD_nil ?_; refine y1 ?_; refine kS_n ?_; refine wE_seq ?_; refine y4 ?_; refine yM ?_
    refine yt ?_; refine y3 ?_; refine yY ?_; refine y4 ?_
    refine yN ?_; refine yM ?_; refine yM ?_
    refine WO.gen ?_
    intro hA hAe
    have hxA : Ext H hA := by rw [hAe]; exact hxB
    have A5 : hA.get H.next = some (.cells [.slice a2 l.length c2, .int .i64 kerf] true 1) := by rw [hAe]; exact Heap.get_wr_new G5
    have hNA : h2.next = hA.next := by rw [hAe]; rfl
    have qA : SliceOf hA 5 (.slice a2 l.length c2) l.length (kcs (raise l k (x.worth + up))) := by rw [hAe]; exact q2.small G5 (by show 2 < l.length * 5; omega)
    clear hAe hxB hx12 hx2 G3 G5 G6 q2
    have hwA := hxA.wf hw
    have hlA := hxA.log.trans hlog
    have gA := (hxA.old p6 hp6).trans g6
    have hsA := hs.ext hxA
    have C5 := best32 F.toFnsW (.of hwA) (qA.log []) kerf hn w ht
    rw [bestR_ok (asked_ok hj hb)] at C5
    have hV2 := bestV_bd hj hb
    have hP := prod_bd hup ⟨Int.le_trans hO.1 hO.2.1, hO.2.2⟩
    have g1 := hG.2.1
    have g2 := hG.2.2.1 hup.1
    have TAIL := fun (rest : Env) => more_down F (base := base) (rest := rest) hwA hlA (by omega) (by omega) gA hsA hn hc hb hk hup
    unfold tail15 at TAIL
    simp only [cR, codeOf, f14] at TAIL
    generalize bestV kerf (raise l k (x.worth + up)) w ht = m at *
    generalize bestV kerf l w ht = n at *
    generalize hpr : up * (Of kerf (wsOf l) l k (w, ht)).2 = pr at *
    generalize hO1 : (Of kerf (wsOf l) l k (w, ht)).1 = o1 at *
    generalize hO2 : (Of kerf (wsOf l) l k (w, ht)).2 = o2 at *
    clear hG
    refine yC ?_
    refine FW.pu C5 ?_
    refine yM ?_; refine yE ?_; refine yE ?_; refine yM ?_; refine yM ?_; refine y3 ?_; refine y4 ?_; refine yM ?_; refine yf ?_; refine yM ?_; refine yO ?_; refine yM ?_; refine yO ?_; refine yM ?_; refine yO ?_
    refine yM ?_; refine yO ?_; refine yM ?_; refine yO ?_
    refine wO_val (a_num (by exact rfl) (by exact rfl) (m_mul (by rw [hpr]; omega) (by rw [hpr]; omega))) ?_
    rw [hpr]
    refine yO ?_; refine yadd ?_; refine yO ?_; refine yf ?_; refine yU ?_; refine y3 ?_; refine yX ?_; refine wE_skip ?_; refine kS_n ?_; exact TAIL _
  · simp only [hik, hj, ↓reduceIte] at q2 ⊢
    obtain ⟨a2, c2, rfl⟩ := q2.form
    refine ⟨_, by apply ra_keepC rfl (rq_made rfl) (by rfl); apply ra_dropC rfl; apply ra_dropC rfl; apply ra_dropC rfl; apply ra_dropC rfl; apply ra_dropC rfl; apply ra_dropC rfl; apply ra_dropC rfl; apply ra_dropC rfl; apply ra_dropC rfl; apply ra_dropC rfl; exact ra_nil, ?_⟩
    have hxB : Ext H (h2.wr base H.next (.cells (lputs [.slice none 0 0, .int .i64 0] 0 (cellsOf (.agg #[.slice a2 (List.length ([] : List Kd)) c2, .int .i64 0]))) true 1)) := hx12.wr (Nat.le_refl _) hbase
    have TAIL := fun (rest : Env) => more_down F (base := base) (rest := rest) (hxB.wf hw) (hxB.log.trans hlog) (show p6 < h2.next by omega) (show base ≤ h2.next by omega) ((hxB.old p6 hp6).trans g6) (hs.ext hxB) hn hc hb hk hup
    unfold tail15 at TAIL
    simp only [cR, codeOf, f14] at TAIL
    refine qM ?_; refine qE ?_; refine qE ?_
    refine wD_store rfl rfl rfl (by exact rfl) (by exact rfl) (by exact rfl) (by assumption) (by exact rfl) (by exact rfl) (by omega) (by omega) (by apply ra_keepC rfl (rq_quiet rfl (a_extract (by exact rfl) (by exact rfl)) (by exact sv_int _ _)) rfl; apply ra_dropC rfl; apply ra_dropC rfl; apply ra_dropC rfl; exact ra_nil) ?_
    refine qM ?_; refine wD_nil ?_; refine y1 ?_; refine kS_n ?_; refine wE_seq ?_; refine y4 ?_; refine yM ?_
    refine yf ?_; refine y3 ?_; refine yX ?_; refine wE_skip ?_; refine kS_n ?_; exact TAIL _
end Go.A.Pk
end
section
set_option maxRecDepth 100000
namespace Go.A.Pk
variable {T : Nat → Option AFunc}
theorem wO_off2 {base : Nat} {rnd : Option Nat} {Q : XQ} {e : Env} {ds : Dfs} {h : Heap} {dst : Option Nat} {op : AOp} {os : List AOper} {t : Nat} {b : Bool} {vs : Array Value} (hg : geT e t = some (.tuple vs)) (H : WO T base rnd Q os (dstE e dst (.tuple #[])) ds h) : WO T base rnd Q (⟨dst, op, some (t, b)⟩ :: os) e ds h := by
  obtain ⟨x', e', ds', h', ⟨m, h1⟩, h2⟩ := H.ok
  exact ⟨x', e', ds', h', ⟨m + 1, fun n hn => by
    obtain ⟨k, rfl⟩ : ∃ k, n = k + 1 := ⟨n - 1, by omega⟩
    simp only [aops, wantedA, hg]; exact h1 k (by omega)⟩, h2⟩
def tail8 : ACode := cR (cR (cR (cR (cR (cR (cR (cR (codeOf f14))))))))
set_option maxHeartbeats 8000000 in
theorem more_mid (F : FnsM T) {base p6 : Nat} {H : Heap} (hw : WF H) (hlog : H.log = []) (hp6 : p6 < H.next) (hbase : base ≤ H.next) {a : Option Addr} {c k : Nat} {l : List Kd} {kerf w ht up : Int} (g6 : H.get p6 = some (.cells [.slice a l.length c, .int .i64 kerf] true 1)) (hs : SliceOf H 5 (.slice a l.length c) l.length (kcs l)) (hn : l.length < 1000000) (hc : chk kerf l = 0) (hb : OnB w ht) (hk : k < l.length) (hup : 0 ≤ up ∧ up ≤ 1000000) {rest : Env} :
    WE T base none tail8 (endP [(12, none)] (.bool true)) ((1, .int .i64 w) :: (2, .int .i64 ht) :: (3, .int .i64 k) :: (4, .int .i64 up) :: (6, .pointer (some ⟨p6, 0, none⟩)) :: (13, .int .i64 (bestV kerf l w ht)) :: (15, .int .i64 (Of kerf (wsOf l) l k (w, ht)).1) :: (16, .int .i64 (Of kerf (wsOf l) l k (w, ht)).2) :: rest) [] H := by
  have hp := F.toFnsT.toFnsV.p
  have hik : asked kerf l (0 ≤ (k : Int) ∧ (k : Int) < (l.length : Int)) = 0 := asked_ok hc (by omega)
  have hF := best_fewer hc hk hb
  have hce := chk_erase hc k
  have hA := asked_ok hc hb
  unfold tail8
  simp only [cR, codeOf, f14]
  refine y4 ?_; refine yN ?_; refine yM ?_
  refine yC ?_
  refine FW.al (al_mono (without61 F.toFnsH (.of hw) (hs.log []) kerf hn k) fun v h' q => orErr_saw2 q) (fun v h' m q => SawQ.log v h' m q) ?_
  rintro _ h2 hx2 ⟨s2, rfl, q2⟩
  simp only [hik, ↓reduceIte, Int.toNat_natCast] at q2 ⊢
  obtain ⟨a2, c2, rfl⟩ := q2.form
  have kN := hx2.next
  have hel : (l.eraseIdx k).length < 1000000 := Nat.lt_of_le_of_lt (List.eraseIdx_sublist l k).length_le hn
  refine yM ?_; refine yE ?_; refine yE ?_; refine wO_val a_new ?_
  refine yS ?_; refine yM ?_; refine y3 ?_; refine y4 ?_
  refine yN ?_; refine yM ?_; refine yM ?_
  refine WO.gen ?_
  intro hA' hAe
  have hxA : Ext H hA' := by rw [hAe]; exact (hx2.push _).wr (by omega) (by omega)
  have hxB : Ext h2 hA' := by rw [hAe]; exact ((Ext.refl _).push _).wr (by omega) (by omega)
  clear hAe
  have hwA := hxA.wf hw
  have hlA := hxA.log.trans hlog
  have gA := (hxA.old p6 hp6).trans g6
  have hsA := hs.ext hxA
  have qA := q2.ext hxB
  have kA := hxA.next
  have C5 := best32 F.toFnsW (.of hwA) (qA.log []) kerf hel w ht
  rw [bestR_ok (asked_ok hce hb)] at C5
  clear hxA hxB hx2 q2
  refine yC ?_
  refine FW.pu C5 ?_
  refine yM ?_; refine yE ?_; refine yE ?_; refine yM ?_; refine yM ?_; refine y3 ?_; refine y4 ?_; refine yN ?_; refine yM ?_; refine yM ?_
  refine yC ?_
  refine FW.al (idle44 F.toFnsU (.of hwA) (hsA.log []) kerf hn w ht) (fun v h' m q => IntsQ.log v h' m q) ?_
  rintro _ h3 hx3 ⟨a3, c3, rfl, q3⟩
  rw [hA]
  have hid : (idleL kerf l w ht).length < 1000000 := by
    have := idles_len kerf l w ht l.length
    unfold idleL; rw [if_pos hA]; omega
  have kB := hx3.next
  have gB := (hx3.old p6 (by omega)).trans gA
  have hsB := hsA.ext hx3
  have hwB := hx3.wf hwA
  have hlB := hx3.log.trans hlA
  have TAIL := fun (rest : Env) => more_up F (base := base) (rest := rest) hwB hlB (show p6 < h3.next by omega) (show base ≤ h3.next by omega) gB hsB hn hc hb hk hup
  unfold tail13 at TAIL
  simp only [cR, codeOf, f14] at TAIL
  generalize bestV kerf (l.eraseIdx k) w ht = m at *
  generalize hO1 : (Of kerf (wsOf l) l k (w, ht)).1 = o1 at *
  generalize hO2 : (Of kerf (wsOf l) l k (w, ht)).2 = o2 at *
  generalize bestV kerf l w ht = n at *
  generalize idleL kerf l w ht = xs at *
  have hmn := hF.1
  have hF2 := hF.2
  clear hF C5 qA hsA gA hx3
  refine yM ?_; refine yE ?_; refine yE ?_; refine yM ?_; refine yM ?_; refine y3 ?_; refine wE_seq ?_
  refine y4 ?_; refine yM ?_; refine yf ?_; refine yM ?_; refine yO ?_; refine yM ?_; refine yO ?_; refine yf ?_
  refine yU ?_; refine yM ?_; refine yO ?_; refine yM ?_; refine yO ?_; refine yf ?_; refine yU ?_; refine yM ?_
  refine yO ?_; refine yM ?_; refine yO ?_; refine yM ?_; refine yO ?_; refine yf ?_; refine yU ?_; refine y3 ?_; refine yX ?_; refine wE_skip ?_; refine kS_n ?_; refine wE_seq ?_; refine y4 ?_; refine yM ?_; refine y3 ?_; refine wE_block ?_
  refine wE_loop (fun m' e ds h' => ∃ i : Nat, i ≤ xs.length ∧ m' = xs.length - i ∧ e = ((1, .int .i64 w) :: (2, .int .i64 ht) :: (3, .int .i64 k) :: (4, .int .i64 up) :: (6, .pointer (some ⟨p6, 0, none⟩)) :: (13, .int .i64 n) :: (15, .int .i64 o1) :: (16, .int .i64 o2) :: (24, .int .i64 m) :: (26, .slice a3 xs.length c3) :: (28, .int .i64 i) :: []) ∧ ds = [] ∧ h' = h3)
    ⟨0, Nat.zero_le _, rfl, rfl, rfl, rfl⟩ ?_
  rintro m' e ds h' ⟨i, hin, rfl, rfl, rfl, rfl⟩
  by_cases hlt : i < xs.length
  · rcases q3.inv with ⟨_, _, h0, _⟩ | ⟨b, o, cap, hv, s, hcap⟩
    · omega
    cases hv
    obtain ⟨vs, own, t, g1, g2⟩ := slice_elem1 s (ints_get (l := xs) (i := i) hlt)
    have hx : xs.getD i 0 ∈ xs := by
      have e1 : xs.getD i 0 = xs[i] := by simp [List.getD, hlt]
      rw [e1]; exact List.getElem_mem hlt
    by_cases hke : ¬ xs.getD i 0 ≠ k
    · have hke' : xs.getD i 0 = k := by omega
      obtain ⟨f1, f2⟩ := hF2 (hke' ▸ hx)
      clear hke'
      have f1' : ¬ m ≠ n := fun q => q f1
      have f2' : ¬ o2 ≠ 0 := fun q => q f2
      clear f1 f2 hF2
      refine wE_seq ?_; refine y4 ?_; refine yM ?_; refine yM ?_; refine yD ?_; refine yt ?_; refine y3 ?_
      refine yY ?_; refine wE_skip ?_; refine kS_n ?_; refine wE_seq ?_; refine wE_block ?_; refine y4 ?_; refine yM ?_; refine yM ?_; refine wO_val (a_iaddrS (by exact rfl) (by exact rfl) (by omega)) ?_; refine wO_val (a_load (by exact rfl) (by assumption) (by assumption)) ?_
      refine yM ?_; refine yt ?_; refine yM ?_; refine yO ?_; refine yM ?_; refine yO ?_; refine yM ?_; refine yO ?_
      refine yf ?_; refine yO ?_; refine yM ?_; refine yO ?_; refine yM ?_; refine yO ?_; refine yf ?_; refine yO ?_
      refine yU ?_; refine yT ?_; refine y3 ?_; refine yX ?_; refine wE_skip ?_; refine kB_n ?_; refine kS_n ?_; refine wE_region ?_; refine yM ?_
      refine yinc ?_; refine yM ?_; refine y3 ?_
      exact ⟨xs.length - (i + 1), by omega, i + 1, by omega, rfl, rfl, rfl, rfl⟩
    · clear hF2
      refine wE_seq ?_; refine y4 ?_; refine yM ?_; refine yM ?_; refine yD ?_; refine yt ?_; refine y3 ?_
      refine yY ?_; refine wE_skip ?_; refine kS_n ?_; refine wE_seq ?_; refine wE_block ?_; refine y4 ?_; refine yM ?_; refine yM ?_; refine wO_val (a_iaddrS (by exact rfl) (by exact rfl) (by omega)) ?_; refine wO_val (a_load (by exact rfl) (by assumption) (by assumption)) ?_
      refine yM ?_; refine yf ?_; refine yM ?_; refine yP ?_; refine yP ?_; refine yP ?_; refine yP ?_; refine wO_off2 (by exact rfl) ?_
      refine wO_off2 (by exact rfl) ?_; refine yP ?_; refine yU ?_; refine y3 ?_; refine yX ?_; refine wE_skip ?_; refine kB_n ?_; refine kS_n ?_; refine wE_region ?_
      refine yM ?_; refine yinc ?_; refine yM ?_; refine y3 ?_
      exact ⟨xs.length - (i + 1), by omega, i + 1, by omega, rfl, rfl, rfl, rfl⟩
  · obtain rfl : i = xs.length := by omega
    clear hF2
    refine wE_seq ?_; refine y4 ?_; refine yM ?_; refine yM ?_; refine yD ?_; refine yf ?_; refine y3 ?_
    refine yX ?_; refine wE_exit ?_; refine kS_e ?_; refine kS_e ?_; refine kB_e ?_; refine kS_n ?_; exact TAIL _
end Go.A.Pk
end
section
set_option maxRecDepth 100000
namespace Go.A.Pk
variable {T : Nat → Option AFunc}
set_option maxHeartbeats 16000000 in
theorem law14 (F : FnsM T) {h : Heap} (hr : Rdy h) {a : Option Addr} {n c : Nat} {l : List Kd} (hs : SliceOf h 5 (.slice a n c) n (kcs l)) (kerf w ht kind up : Int) (x : Kd) :
    Pu T 14 [.agg #[.slice a n c, .int .i64 kerf], .int .i64 w, .int .i64 ht, .int .i64 kind, .int .i64 up, .agg (kc x).toArray] h (.bool true) := by
  have hp := F.toFnsT.toFnsV.p
  refine .of hp F.f14 hr rfl ?_
  have hx : Ext h ((h.push (.cells [.slice a n c, .int .i64 kerf] true 1)).push (.cells (kc x) true 1)) := ((Ext.refl h).push _).push _
  obtain rfl : n = l.length := by have := hs.len; rw [kcs_length] at this; omega
  refine y4 ?_; refine yB ?_; refine yB ?_; refine yM ?_; refine y3 ?_; refine wE_seq ?_; refine y4 ?_
  refine yN ?_
  refine yC ?_
  refine FW.pu (few18 F.toFnsE.toFnsC (.of (hx.wf hr.wf)) kerf) ?_
  by_cases hfew : l.length ≤ 16
  · have hn : l.length < 1000000 := by omega
    rw [decide_eq_true hfew]
    by_cases hu1 : up < 0
    · refine yA ?_; refine yM ?_; refine yO ?_; refine yM ?_; refine yO ?_; refine yt ?_; refine yU ?_; refine yM ?_
      refine yP ?_; refine yP ?_; refine yT ?_; refine y3 ?_; refine yY ?_; refine y4 ?_
      refine yC ?_
      refine FW.pu (F.c19 (.of (hx.wf hr.wf))) ?_
      refine yM ?_; refine y3 ?_; refine wE_ret ?_; refine kS_r ?_
      exact endP_ret (hx.log.trans hr.log) rfl rfl
    by_cases hu2 : 1000000 < up
    · refine yA ?_; refine yM ?_; refine yO ?_; refine yM ?_; refine yO ?_; refine yf ?_; refine yU ?_; refine yM ?_; refine yO ?_
      refine yM ?_; refine yO ?_; refine yt ?_; refine yU ?_; refine y3 ?_; refine yY ?_; refine y4 ?_
      refine yC ?_
      refine FW.pu (F.c19 (.of (hx.wf hr.wf))) ?_
      refine yM ?_; refine y3 ?_; refine wE_ret ?_; refine kS_r ?_
      exact endP_ret (hx.log.trans hr.log) rfl rfl
    have hby : 0 ≤ up ∧ up ≤ 1000000 := by omega
    refine yA ?_; refine yM ?_; refine yO ?_; refine yM ?_; refine yO ?_; refine yf ?_; refine yU ?_; refine yM ?_; refine yO ?_
    refine yM ?_; refine yO ?_; refine yf ?_; refine yU ?_; refine y3 ?_; refine yX ?_
    refine wE_skip ?_; refine kS_n ?_; refine y4 ?_; refine yN ?_
    refine yM ?_; refine yM ?_
    refine yC ?_
    have C1 := best32 F.toFnsW (.of (hx.wf hr.wf)) ((hs.ext hx).log []) kerf hn w ht
    have C2 := often46 F.toFnsO3 (.of (hx.wf hr.wf)) ((hs.ext hx).log []) kerf hn w ht kind
    unfold ofR ofP at C2
    by_cases hA : asked kerf l (OnB w ht) = 0
    · have hc := (asked_zero hA).1
      have hb := (asked_zero hA).2
      rw [bestR_ok hA] at C1
      by_cases hK : askK kerf l w ht kind = 0
      · obtain ⟨_, _, k, rfl, hk⟩ := askK_zero hK
        simp only [if_pos hK] at C2
        rw [hK] at C2
        refine FW.pu C1 ?_
        refine yM ?_; refine yE ?_; refine yE ?_; refine yM ?_; refine yM ?_; refine y3 ?_; refine y4 ?_; refine yN ?_; refine yM ?_
        refine yM ?_; refine yM ?_
        refine yC ?_
        refine FW.pu C2 ?_
        refine yM ?_; refine yE ?_; refine yE ?_; refine yE ?_; refine yM ?_; refine yM ?_; refine yM ?_; refine y3 ?_; refine wE_seq ?_; refine y4 ?_; refine yM ?_; refine yf ?_; refine y3 ?_; refine yX ?_; refine wE_skip ?_; refine kS_n ?_; refine y4 ?_
        refine yN ?_
        refine yN ?_
        refine yC ?_
        refine FW.al (al_mono (with60 F.toFnsH (.of (hx.wf hr.wf)) ((hs.ext hx).log []) kerf (by omega) x) fun v h' q => orErr_change q) (fun v h' m q => SawQ.log v h' m q) ?_
        rintro _ h2 hx2 ⟨s2, rfl, q2⟩
        have kN : h.next + 2 ≤ h2.next := hx2.next
        have G6 : h2.get h.next = some (.cells [.slice a l.length c, .int .i64 kerf] true 1) := by rw [hx2.old _ (by (simp only [z1, z2]; omega))]; (simp (disch := first | omega | (simp only [z1, z2]; omega)) only [z3, z4, z5, z6, z7, z1, z2, *]; exact rfl)
        have hx12 := hx.trans hx2
        by_cases hj : chk kerf (l ++ [x]) = 0
        · simp only [hc, hj, ↓reduceIte] at q2 ⊢
          obtain ⟨a2, c2, rfl⟩ := q2.form
          refine yM ?_; refine yE ?_; refine yE ?_; refine wO_val a_new ?_
          refine yS ?_; refine yM ?_; refine y3 ?_; refine wE_seq ?_; refine y4 ?_; refine yM ?_; refine yt ?_; refine y3 ?_; refine yY ?_; refine y4 ?_
          refine yN ?_; refine yM ?_; refine yM ?_
          refine WO.gen ?_
          intro hA' hAe
          have hxA : Ext h hA' := by rw [hAe]; exact (hx12.push _).wr (by omega) (by omega)
          have hxB : Ext h2 hA' := by rw [hAe]; exact ((Ext.refl _).push _).wr (by omega) (by omega)
          clear hAe
          have hwA := hxA.wf hr.wf
          have hlA := hxA.log.trans hr.log
          have gA := (hxB.old h.next (by omega)).trans G6
          have hsA := hs.ext hxA
          have qA := q2.ext hxB
          have kA := hxB.next
          have TAIL := fun (rest : Env) => more_mid F (base := h.next) (rest := rest) hwA hlA (Nat.lt_of_lt_of_le (show h.next < h2.next by omega) kA) (Nat.le_trans (show h.next ≤ h2.next by omega) kA) gA hsA hn hc hb hk hby
          unfold tail8 at TAIL
          simp only [cR, codeOf, f14] at TAIL
          have C5 := best32 F.toFnsW (.of hwA) (qA.log []) kerf (by rw [List.length_append]; simp; omega) w ht
          rw [bestR_ok (asked_ok hj hb)] at C5
          have hge := best_more (chk_iff.1 hc).2.1.1 (l := l) hb x
          refine yC ?_
          refine FW.pu C5 ?_
          refine yM ?_; refine yE ?_; refine yE ?_; refine yM ?_; refine yM ?_; refine y3 ?_; refine y4 ?_; refine yM ?_; refine yf ?_; refine yM ?_; refine yO ?_; refine yM ?_; refine yO ?_; refine yM ?_; refine yO ?_
          refine yf ?_; refine yU ?_; refine y3 ?_; refine yX ?_; refine wE_skip ?_; refine kS_n ?_; refine wE_seq ?_; refine y4 ?_; refine yM ?_; refine yf ?_; refine y3 ?_; refine yX ?_; refine wE_skip ?_; refine kS_n ?_; exact TAIL _
        · simp only [hc, hj, ↓reduceIte] at q2 ⊢
          obtain ⟨a2, c2, rfl⟩ := q2.form
          have hxA : Ext h ((h2.push (.cells [.slice none 0 0, .int .i64 0] true 1)).wr h.next h2.next (.cells (lputs [.slice none 0 0, .int .i64 0] 0 (cellsOf (.agg #[.slice a2 (List.length ([] : List Kd)) c2, .int .i64 0]))) true 1)) := (hx12.push _).wr (by omega) (by omega)
          have hxB : Ext h2 ((h2.push (.cells [.slice none 0 0, .int .i64 0] true 1)).wr h.next h2.next (.cells (lputs [.slice none 0 0, .int .i64 0] 0 (cellsOf (.agg #[.slice a2 (List.length ([] : List Kd)) c2, .int .i64 0]))) true 1)) := ((Ext.refl _).push _).wr (Nat.le_refl _) (by omega)
          have hwA := hxA.wf hr.wf
          have hlA := hxA.log.trans hr.log
          have gA := (hxB.old h.next (by omega)).trans G6
          have hsA := hs.ext hxA
          have qA := q2.ext hxB
          have kA := hxB.next
          have TAIL := fun (rest : Env) => more_mid F (base := h.next) (rest := rest) hwA hlA (Nat.lt_of_lt_of_le (show h.next < h2.next by omega) kA) (Nat.le_trans (show h.next ≤ h2.next by omega) kA) gA hsA hn hc hb hk hby
          unfold tail8 at TAIL
          simp only [cR, codeOf, f14] at TAIL
          refine yM ?_; refine yE ?_; refine yE ?_; refine wO_val a_new ?_
          refine yS ?_; refine yM ?_; refine y3 ?_; refine wE_seq ?_; refine y4 ?_; refine yM ?_; refine yf ?_; refine y3 ?_; refine yX ?_; refine wE_skip ?_; refine kS_n ?_; refine wE_seq ?_; refine y4 ?_; refine yM ?_; refine yf ?_; refine y3 ?_; refine yX ?_; refine wE_skip ?_; refine kS_n ?_; exact TAIL _
      · simp only [if_neg hK] at C2
        refine FW.pu C1 ?_
        refine yM ?_; refine yE ?_; refine yE ?_; refine yM ?_; refine yM ?_; refine y3 ?_; refine y4 ?_; refine yN ?_; refine yM ?_
        refine yM ?_; refine yM ?_
        refine yC ?_
        refine FW.pu C2 ?_
        refine yM ?_; refine yE ?_; refine yE ?_; refine yE ?_; refine yM ?_; refine yM ?_; refine yM ?_; refine y3 ?_; refine wE_seq ?_; refine y4 ?_; refine yM ?_; refine yf ?_; refine y3 ?_; refine yX ?_; refine wE_skip ?_; refine kS_n ?_; refine y4 ?_
        refine yN ?_
        refine yN ?_
        refine yC ?_
        refine FW.al (al_mono (with60 F.toFnsH (.of (hx.wf hr.wf)) ((hs.ext hx).log []) kerf (by omega) x) fun v h' q => orErr_change q) (fun v h' m q => SawQ.log v h' m q) ?_
        rintro _ h2 hx2 ⟨s2, rfl, q2⟩
        have kN : h.next + 2 ≤ h2.next := hx2.next
        have G6 : h2.get h.next = some (.cells [.slice a l.length c, .int .i64 kerf] true 1) := by rw [hx2.old _ (by (simp only [z1, z2]; omega))]; (simp (disch := first | omega | (simp only [z1, z2]; omega)) only [z3, z4, z5, z6, z7, z1, z2, *]; exact rfl)
        have hx12 := hx.trans hx2
        by_cases hj : chk kerf (l ++ [x]) = 0
        · simp only [hc, hj, ↓reduceIte] at q2 ⊢
          obtain ⟨a2, c2, rfl⟩ := q2.form
          refine yM ?_; refine yE ?_; refine yE ?_; refine wO_val a_new ?_
          refine yS ?_; refine yM ?_; refine y3 ?_; refine wE_seq ?_; refine y4 ?_; refine yM ?_; refine yt ?_; refine y3 ?_; refine yY ?_; refine y4 ?_
          refine yN ?_; refine yM ?_; refine yM ?_
          refine WO.gen ?_
          intro hA' hAe
          have hxA : Ext h hA' := by rw [hAe]; exact (hx12.push _).wr (by omega) (by omega)
          have hxB : Ext h2 hA' := by rw [hAe]; exact ((Ext.refl _).push _).wr (by omega) (by omega)
          clear hAe
          have hwA := hxA.wf hr.wf
          have hlA := hxA.log.trans hr.log
          have gA := (hxB.old h.next (by omega)).trans G6
          have hsA := hs.ext hxA
          have qA := q2.ext hxB
          have kA := hxB.next
          have C5 := best32 F.toFnsW (.of hwA) (qA.log []) kerf (by rw [List.length_append]; simp; omega) w ht
          rw [bestR_ok (asked_ok hj hb)] at C5
          have hge := best_more (chk_iff.1 hc).2.1.1 (l := l) hb x
          refine yC ?_
          refine FW.pu C5 ?_
          refine yM ?_; refine yE ?_; refine yE ?_; refine yM ?_; refine yM ?_; refine y3 ?_; refine y4 ?_; refine yM ?_; refine yf ?_; refine yM ?_; refine yO ?_; refine yM ?_; refine yO ?_; refine yM ?_; refine yO ?_
          refine yf ?_; refine yU ?_; refine y3 ?_; refine yX ?_; refine wE_skip ?_; refine kS_n ?_; refine wE_seq ?_; refine y4 ?_; refine yM ?_; refine yt ?_; refine y3 ?_; refine yY ?_; refine y4 ?_
          refine yC ?_
          refine FW.pu (F.c19 (.of hwA)) ?_
          refine yM ?_; refine y3 ?_; refine wE_ret ?_; refine kS_r ?_
          exact endP_ret hlA rfl rfl
        · simp only [hc, hj, ↓reduceIte] at q2 ⊢
          obtain ⟨a2, c2, rfl⟩ := q2.form
          have hxA : Ext h ((h2.push (.cells [.slice none 0 0, .int .i64 0] true 1)).wr h.next h2.next (.cells (lputs [.slice none 0 0, .int .i64 0] 0 (cellsOf (.agg #[.slice a2 (List.length ([] : List Kd)) c2, .int .i64 0]))) true 1)) := (hx12.push _).wr (by omega) (by omega)
          have hxB : Ext h2 ((h2.push (.cells [.slice none 0 0, .int .i64 0] true 1)).wr h.next h2.next (.cells (lputs [.slice none 0 0, .int .i64 0] 0 (cellsOf (.agg #[.slice a2 (List.length ([] : List Kd)) c2, .int .i64 0]))) true 1)) := ((Ext.refl _).push _).wr (Nat.le_refl _) (by omega)
          have hwA := hxA.wf hr.wf
          have hlA := hxA.log.trans hr.log
          have gA := (hxB.old h.next (by omega)).trans G6
          have hsA := hs.ext hxA
          have qA := q2.ext hxB
          have kA := hxB.next
          refine yM ?_; refine yE ?_; refine yE ?_; refine wO_val a_new ?_
          refine yS ?_; refine yM ?_; refine y3 ?_; refine wE_seq ?_; refine y4 ?_; refine yM ?_; refine yf ?_; refine y3 ?_; refine yX ?_; refine wE_skip ?_; refine kS_n ?_; refine wE_seq ?_; refine y4 ?_; refine yM ?_; refine yt ?_; refine y3 ?_; refine yY ?_; refine y4 ?_
          refine yC ?_
          refine FW.pu (F.c19 (.of hwA)) ?_
          refine yM ?_; refine y3 ?_; refine wE_ret ?_; refine kS_r ?_
          exact endP_ret hlA rfl rfl
    · have hK := askK_no (kind := kind) hA
      simp only [if_neg hK] at C2
      rw [bestR_no hA] at C1
      refine FW.pu C1 ?_
      refine yM ?_; refine yE ?_; refine yE ?_; refine yM ?_; refine yM ?_; refine y3 ?_; refine y4 ?_; refine yN ?_; refine yM ?_
      refine yM ?_; refine yM ?_
      refine yC ?_
      refine FW.pu C2 ?_
      refine yM ?_; refine yE ?_; refine yE ?_; refine yE ?_; refine yM ?_; refine yM ?_; refine yM ?_; refine y3 ?_; refine wE_seq ?_; refine y4 ?_; refine yM ?_; refine yt ?_; refine y3 ?_; refine yY ?_; refine y4 ?_
      refine yC ?_
      refine FW.pu (F.c19 (.of (hx.wf hr.wf))) ?_
      refine yM ?_; refine y3 ?_; refine wE_ret ?_; refine kS_r ?_
      exact endP_ret (hx.log.trans hr.log) rfl rfl
  · rw [decide_eq_false hfew]
    refine yA ?_; refine yM ?_; refine yP ?_; refine yP ?_; refine yT ?_; refine yM ?_; refine yP ?_; refine yP ?_
    refine yT ?_; refine y3 ?_; refine yY ?_; refine y4 ?_
    refine yC ?_
    refine FW.pu (F.c19 (.of (hx.wf hr.wf))) ?_
    refine yM ?_; refine y3 ?_; refine wE_ret ?_; refine kS_r ?_
    exact endP_ret (hx.log.trans hr.log) rfl rfl
end Go.A.Pk
end
section
set_option maxRecDepth 100000
open Go Go.A Go.Proofs Go.RowKit
namespace Go.A.Pk
theorem c14 : compF Tryz.prog Tryz.f14 [[1, 2, 3, 4, 6, 11], [1, 2, 3, 4, 6, 11, 46], [12], [1, 2, 3, 4, 6, 11, 13, 14], [1, 2, 3, 4, 6, 11, 13, 14, 15, 16, 17], [1, 2, 3, 4, 6, 11, 13, 15, 16, 17, 65], [12], [1, 2, 3, 4, 6, 13, 15, 16, 17, 18, 19], [1, 2, 3, 4, 6, 13, 15, 16, 17, 18, 74], [1, 2, 3, 4, 6, 13, 15, 16, 17, 20, 21], [1, 2, 3, 4, 6, 13, 15, 16, 17, 88], [12], [1, 2, 3, 4, 6, 13, 15, 16, 90], [12], [1, 2, 3, 4, 6, 13, 15, 16, 22, 23], [1, 2, 3, 4, 6, 13, 15, 16, 23, 24, 25], [1, 2, 3, 4, 6, 13, 15, 16, 23, 24, 25, 26, 27], [1, 2, 3, 4, 6, 13, 15, 16, 24, 26, 126], [12], [1, 2, 3, 4, 6, 13, 15, 16, 24, 26, 28], [1, 2, 3, 4, 6, 13, 15, 16, 24, 26, 28, 130], [1, 2, 3, 4, 6, 13, 15, 16, 24, 26, 28, 147], [12], [1, 2, 3, 4, 6, 13, 15, 16, 24, 26, 28], [1, 2, 3, 4, 6, 13, 15, 16, 29, 30], [1, 2, 3, 4, 6, 13, 15, 16, 29, 163], [1, 2, 3, 4, 6, 13, 15, 16, 31, 32], [1, 2, 3, 4, 6, 13, 15, 16, 181], [12], [1, 2, 4, 13, 15, 16, 30, 33], [1, 2, 4, 13, 15, 16, 33, 197], [4, 13, 15, 16, 34, 35], [15, 16, 220], [12], [12]] = some f14 := by kernel_rfl
theorem c40 : compF Tryz.prog Tryz.f40 [[1, 2, 3, 4], [1, 2, 3, 11, 12], [1, 2, 3, 11, 12, 28], [8, 9, 10], [13], [13, 39], [8, 9, 10], [8, 9, 10]] = some f40 := by kernel_rfl
def tree14 : Tr := (.node (.node (.node (.node (.node (.node .nil 14 f14 .nil) 18 f18 .nil) 19 (.prim (pConst (.bool true))) (.node (.node .nil 32 f32 .nil) 39 f39 .nil)) 40 f40 (.node (.node (.node .nil 42 f42 .nil) 44 f44 .nil) 46 f46 (.node .nil 59 f59 .nil))) 60 f60 (.node (.node (.node (.node .nil 61 f61 .nil) 66 f66 .nil) 75 f75 (.node (.node .nil 76 f76 .nil) 77 f77 .nil)) 83 f83 (.node (.node (.node .nil 94 f94 .nil) 96 f96 .nil) 97 f97 (.node .nil 98 f98 .nil)))) 103 f103 (.node (.node (.node (.node (.node .nil 104 f104 .nil) 105 f105 .nil) 106 f106 (.node (.node .nil 113 f113 .nil) 114 f114 .nil)) 117 f117 (.node (.node (.node .nil 118 f118 .nil) 119 f119 .nil) 122 f122 (.node .nil 125 f125 .nil))) 136 f136 (.node (.node (.node (.node .nil 138 f138 .nil) 139 f139 .nil) 140 f140 (.node (.node .nil 141 f141 .nil) 147 f147 .nil)) 149 f149 (.node (.node (.node .nil 165 f165 .nil) 166 f166 .nil) 167 f167 (.node .nil 168 f168 .nil)))))
def T14 : Nat → Option AFunc := tree14.get
theorem all14 : tree14.all (Entry Tryz.prog) := by
  unfold tree14
  exact (Tr.all_node (Tr.all_node (Tr.all_node (Tr.all_node (Tr.all_node (Tr.all_node Tr.all_nil (.of Tryz.func14 c14) Tr.all_nil) (.of Tryz.func18 c18) Tr.all_nil) ok19 (Tr.all_node (Tr.all_node Tr.all_nil (.of Tryz.func32 c32) Tr.all_nil) (.of Tryz.func39 c39) Tr.all_nil)) (.of Tryz.func40 c40) (Tr.all_node (Tr.all_node (Tr.all_node Tr.all_nil (.of Tryz.func42 c42) Tr.all_nil) (.of Tryz.func44 c44) Tr.all_nil) (.of Tryz.func46 c46) (Tr.all_node Tr.all_nil (.of Tryz.func59 c59) Tr.all_nil))) (.of Tryz.func60 c60) (Tr.all_node (Tr.all_node (Tr.all_node (Tr.all_node Tr.all_nil (.of Tryz.func61 c61) Tr.all_nil) (.of Tryz.func66 c66) Tr.all_nil) (.of Tryz.func75 c75) (Tr.all_node (Tr.all_node Tr.all_nil (.of Tryz.func76 c76) Tr.all_nil) (.of Tryz.func77 c77) Tr.all_nil)) (.of Tryz.func83 c83) (Tr.all_node (Tr.all_node (Tr.all_node Tr.all_nil (.of Tryz.func94 c94) Tr.all_nil) (.of Tryz.func96 c96) Tr.all_nil) (.of Tryz.func97 c97) (Tr.all_node Tr.all_nil (.of Tryz.func98 c98) Tr.all_nil)))) (.of Tryz.func103 c103) (Tr.all_node (Tr.all_node (Tr.all_node (Tr.all_node (Tr.all_node Tr.all_nil (.of Tryz.func104 c104) Tr.all_nil) (.of Tryz.func105 c105) Tr.all_nil) (.of Tryz.func106 c106) (Tr.all_node (Tr.all_node Tr.all_nil (.of Tryz.func113 c113) Tr.all_nil) (.of Tryz.func114 c114) Tr.all_nil)) (.of Tryz.func117 c117) (Tr.all_node (Tr.all_node (Tr.all_node Tr.all_nil (.of Tryz.func118 c118) Tr.all_nil) (.of Tryz.func119 c119) Tr.all_nil) (.of Tryz.func122 c122) (Tr.all_node Tr.all_nil (.of Tryz.func125 c125) Tr.all_nil))) (.of Tryz.func136 c136) (Tr.all_node (Tr.all_node (Tr.all_node (Tr.all_node Tr.all_nil (.of Tryz.func138 c138) Tr.all_nil) (.of Tryz.func139 c139) Tr.all_nil) (.of Tryz.func140 c140) (Tr.all_node (Tr.all_node Tr.all_nil (.of Tryz.func141 c141) Tr.all_nil) (.of Tryz.func147 c147) Tr.all_nil)) (.of Tryz.func149 c149) (Tr.all_node (Tr.all_node (Tr.all_node Tr.all_nil (.of Tryz.func165 c165) Tr.all_nil) (.of Tryz.func166 c166) Tr.all_nil) (.of Tryz.func167 c167) (Tr.all_node Tr.all_nil (.of Tryz.func168 c168) Tr.all_nil)))))
theorem sound14 : SoundT Tryz.prog T14 := soundT_of (by kernel_rfl) all14
theorem fnsA14 : FnsA T14 := { p := sound14.primAS, f77 := by kernel_rfl, f117 := by kernel_rfl, f119 := by kernel_rfl, f147 := by kernel_rfl, f118 := by kernel_rfl, f66 := by kernel_rfl }
theorem fnsC14 : FnsC T14 := { p := sound14.primAS, f18 := by kernel_rfl, f77 := by kernel_rfl, f97 := by kernel_rfl, f122 := by kernel_rfl, f149 := by kernel_rfl }
theorem fnsE14 : FnsE T14 := { fnsA14, fnsC14 with f75 := by kernel_rfl, f96 := by kernel_rfl, f113 := by kernel_rfl }
theorem fnsH14 : FnsH T14 := { fnsE14 with f59 := by kernel_rfl, f60 := by kernel_rfl, f61 := by kernel_rfl, f114 := by kernel_rfl, f39 := by kernel_rfl }
theorem fnsV14 : FnsV T14 := { p := sound14.primAS, f94 := by kernel_rfl, f104 := by kernel_rfl, f105 := by kernel_rfl, f106 := by kernel_rfl, f136 := by kernel_rfl, f140 := by kernel_rfl, f141 := by kernel_rfl, f83 := by kernel_rfl }
theorem fnsW14 : FnsW T14 := { fnsE14, fnsV14 with f76 := by kernel_rfl, f32 := by kernel_rfl }
theorem fnsO14 : FnsO T14 := { p := sound14.primAS, f125 := by kernel_rfl, f165 := by kernel_rfl, f167 := by kernel_rfl, f106 := by kernel_rfl, f168 := by kernel_rfl }
theorem fnsP14 : FnsP T14 := { p := sound14.primAS, f140 := by kernel_rfl, f141 := by kernel_rfl, f166 := by kernel_rfl }
theorem fnsQ14 : FnsQ T14 := { fnsV14, fnsO14, fnsP14 with }
theorem fnsT14 : FnsT T14 := { fnsQ14 with f139 := by kernel_rfl, f138 := by kernel_rfl, f98 := by kernel_rfl }
theorem fnsU14 : FnsU T14 := { fnsW14, fnsT14 with f40 := by kernel_rfl, f42 := by kernel_rfl, f44 := by kernel_rfl }
theorem fnsO3 : FnsO3 T14 := { fnsW14, fnsV14 with f103 := by kernel_rfl, f46 := by kernel_rfl }
theorem pu19M {h : Heap} : Pu T14 19 [] h (.bool true) := .prim (p := pConst (.bool true)) (by kernel_rfl) rfl ⟨rfl, rfl⟩
theorem fnsM : FnsM T14 := { fnsU14, fnsO3, fnsH14 with f14 := by kernel_rfl, c19 := fun _ => pu19M }
theorem more_calls {W : World} {sl : Value} {l : List Kd} (hk : KindsAt W sl l) (kerf w ht kind up : Int) (k : Kd) : Calls Tryz.prog 14 #[.agg #[sl, .int .i64 kerf], .int .i64 w, .int .i64 ht, .int .i64 kind, .int .i64 up, .agg (kc k).toArray] W fun e W' => e = .returned (.bool true) ∧ Below W.heap.size W W' := by
  obtain ⟨h, μ, u, n, c, a, L⟩ := hk.laid
  obtain ⟨r, h', ⟨m, hm⟩, rfl, rfl⟩ := law14 fnsM L.rdy L.at' kerf w ht kind up k
  have hrun := hm m (Nat.le_refl _)
  have hu : VR μ (.slice a n c) sl := L.form ▸ L.val
  have ha : LR μ [.agg #[.slice a n c, .int .i64 kerf], .int .i64 w, .int .i64 ht, .int .i64 kind, .int .i64 up, .agg (kc k).toArray] [.agg #[sl, .int .i64 kerf], .int .i64 w, .int .i64 ht, .int .i64 kind, .int .i64 up, .agg (kc k).toArray] :=
    .cons (VR.aggL (.cons hu (.cons (.int _ _) .nil))) (.cons (.int _ _) (.cons (.int _ _) (.cons (.int _ _) (.cons (.int _ _) (.cons (VR.noRef (noRef_kc k)).1 .nil)))))
  refine (acall_calls sound14 hrun L.rdy.log (by kernel_rfl) L.rel ha).mono fun e W' hq => ?_
  obtain ⟨μ', q1, q2, q3⟩ := hq
  cases e with
  | returned v' =>
    have hv : VR μ' (.bool true) v' := q1
    cases hv
    exact ⟨rfl, St.below q3 L.ro⟩
  | panicked _ => exact q1.elim
  | outgrown => exact q1.elim
end Go.A.Pk
end
