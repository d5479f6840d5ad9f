/- Best, its plain law, and the walk of PlankShape. -/
import Derived.Test.YteafdpbjocdbbaaGreatDoorLV
import Derived.Test.YteafdpbjocdbbaaGreatDoorLD
import Derived.Test.YteafdpbjocdbbaaGreatDoorLF
set_option linter.all false
section
set_option maxRecDepth 100000
namespace Go.A.Pk
variable {T : Nat → Option AFunc}
def asgO : ACode := (.region [g 8 (.new [(.int .i64 0), (.int .i64 0)]), ⟨none, .store 2 (t 8) (t 18), none⟩] [3, 7, 8])
def bodyO : ACode := (.block 1 (.seq (.region [g 9 (.new [(.int .i64 0)]), ⟨none, .store 1 (t 9) (.const (.int .i64 0)), none⟩] [3, 7, 8, 9])
 (.seq (.seq (.region [g 19 (.load none (t 3)), g 20 (.load (some 2) (t 8)), g 21 (.call (.func 104) [(t 19), (t 20)])] [3, 7, 8, 9, 21])
 (.block 2 (.rangeFunc (t 21) [22] (.region [g 10 (.new [(.int .u8 0), (.int .i64 0)]), ⟨none, .store 2 (t 10) (t 22), none⟩] [3, 9, 10]) (.block 3 (.draw [g 23 (.load none (t 9)), g 24 (.load none (t 3)), g 25 (.nilchk (t 24)), g 26 (.faddr 2 (t 25)), g 27 (.load none (t 26)), g 28 (.faddr 1 (t 10)), g 29 (.load none (t 28)), g 30 (.iaddrS 1 (t 27) (t 29)), g 31 (.load none (t 30)), g 32 (.minmax true [(t 23), (t 31)]), ⟨none, .store 1 (t 9) (t 32), none⟩] [0, 1, 2, 3, 4, 5, 6, 7, 8, 9, 10] [0, 0, 2, 6, 14, 0, 32, 126, 254, 511, 1023] [])))))
 (.seq (.seq (.region [g 33 (.load none (t 3)), g 34 (.load (some 2) (t 8)), g 35 (.call (.func 105) [(t 33), (t 34)])] [3, 7, 8, 9, 35])
 (.block 4 (.rangeFunc (t 35) [36] (.region [g 11 (.new [(.int .u8 0), (.int .i64 0)]), ⟨none, .store 2 (t 11) (t 36), none⟩] [3, 7, 8, 9, 11]) (.block 5 (.seq (.region [g 38 (.load none (t 3)), g 39 (.load (some 2) (t 8)), g 40 (.load (some 2) (t 11)), g 41 (.call (.func 106) [(t 38), (t 39), (t 40)]), g 37 (.mov (t 41)), g 42 (.extract (t 37) 0), g 43 (.extract (t 37) 1), g 12 (.new [(.int .i64 0), (.int .i64 0)]), g 13 (.new [(.int .i64 0), (.int .i64 0)]), ⟨none, .store 2 (t 12) (t 42), none⟩, ⟨none, .store 2 (t 13) (t 43), none⟩] [7, 9, 12, 13])
 (.draw [g 44 (.load none (t 9)), g 45 (.load none (t 7)), g 46 (.load (some 2) (t 12)), g 47 (.lookup true [.i .i64, .i .i64] (.int .i64 0) false (t 45) (t 46)), g 48 (.load none (t 7)), g 49 (.load (some 2) (t 13)), g 50 (.lookup true [.i .i64, .i .i64] (.int .i64 0) false (t 48) (t 49)), g 51 (.bin (.num .add) (t 47) (t 50)), g 52 (.minmax true [(t 44), (t 51)]), ⟨none, .store 1 (t 9) (t 52), none⟩] [0, 1, 2, 3, 4, 5, 6, 7, 8, 9] [0, 0, 0, 6, 0, 0, 48, 126, 255, 511] []))))))
 (.region [g 53 (.load none (t 7)), g 54 (.load (some 2) (t 8)), g 55 (.load none (t 9)), ⟨none, .mapUp true [.i .i64, .i .i64] (t 53) (t 54) (t 55), none⟩] [])))))
def asgL : ACode := (.region [g 10 (.new [(.int .u8 0), (.int .i64 0)]), ⟨none, .store 2 (t 10) (t 22), none⟩] [3, 9, 10])
def bodyL : ACode := (.block 3 (.draw [g 23 (.load none (t 9)), g 24 (.load none (t 3)), g 25 (.nilchk (t 24)), g 26 (.faddr 2 (t 25)), g 27 (.load none (t 26)), g 28 (.faddr 1 (t 10)), g 29 (.load none (t 28)), g 30 (.iaddrS 1 (t 27) (t 29)), g 31 (.load none (t 30)), g 32 (.minmax true [(t 23), (t 31)]), ⟨none, .store 1 (t 9) (t 32), none⟩] [0, 1, 2, 3, 4, 5, 6, 7, 8, 9, 10] [0, 0, 2, 6, 14, 0, 32, 126, 254, 511, 1023] []))
def asgC : ACode := (.region [g 11 (.new [(.int .u8 0), (.int .i64 0)]), ⟨none, .store 2 (t 11) (t 36), none⟩] [3, 7, 8, 9, 11])
def bodyC : ACode := (.block 5 (.seq (.region [g 38 (.load none (t 3)), g 39 (.load (some 2) (t 8)), g 40 (.load (some 2) (t 11)), g 41 (.call (.func 106) [(t 38), (t 39), (t 40)]), g 37 (.mov (t 41)), g 42 (.extract (t 37) 0), g 43 (.extract (t 37) 1), g 12 (.new [(.int .i64 0), (.int .i64 0)]), g 13 (.new [(.int .i64 0), (.int .i64 0)]), ⟨none, .store 2 (t 12) (t 42), none⟩, ⟨none, .store 2 (t 13) (t 43), none⟩] [7, 9, 12, 13])
 (.draw [g 44 (.load none (t 9)), g 45 (.load none (t 7)), g 46 (.load (some 2) (t 12)), g 47 (.lookup true [.i .i64, .i .i64] (.int .i64 0) false (t 45) (t 46)), g 48 (.load none (t 7)), g 49 (.load (some 2) (t 13)), g 50 (.lookup true [.i .i64, .i .i64] (.int .i64 0) false (t 48) (t 49)), g 51 (.bin (.num .add) (t 47) (t 50)), g 52 (.minmax true [(t 44), (t 51)]), ⟨none, .store 1 (t 9) (t 52), none⟩] [0, 1, 2, 3, 4, 5, 6, 7, 8, 9] [0, 0, 0, 6, 0, 0, 48, 126, 255, 511] [])))
abbrev Tab := List ((Nat × Nat) × Int)
def ents (t : Tab) : List (Value × Value) := t.map fun e => (boardV e.1, .int .i64 e.2)
def isKey (x : Int × Int) (e : (Nat × Nat) × Int) : Bool := decide (x.1 = e.1.1 ∧ x.2 = e.1.2)
def look : Tab → Int × Int → Int
  | [], _ => 0
  | e :: t, x => if isKey x e then e.2 else look t x
def upd : Tab → Nat × Nat → Int → Tab
  | [], x, v => [(x, v)]
  | e :: t, x, v => if isKey (x.1, x.2) e then (x, v) :: t else e :: upd t x v
def mx (a b : Int) : Int := if b > a then b else a
def L2 : List Leaf := [.i .i64, .i .i64]
theorem keyEq_board (x : Int × Int) (e : (Nat × Nat) × Int) : keyEq true L2 (pairV x) (boardV e.1) = some (isKey x e) := by
  show leavesEq L2 [.int .i64 x.1, .int .i64 x.2] [.int .i64 e.1.1, .int .i64 e.1.2] = _
  rw [L2, leaves2]; rfl
theorem find_look (x : Int × Int) : ∀ (t : Tab) (i : Nat), (findA true L2 (pairV x) i (ents t) = some none ∧ look t x = 0) ∨ ∃ j, findA true L2 (pairV x) i (ents t) = some (some (j, .int .i64 (look t x)))
  | [], i => .inl ⟨rfl, rfl⟩
  | e :: t, i => by
    simp only [ents, List.map_cons, findA, keyEq_board, look]
    cases isKey x e with
    | true => exact .inr ⟨i, rfl⟩
    | false => exact find_look x t (i + 1)
theorem find_upd (x : Nat × Nat) (v : Int) : ∀ (t : Tab) (i : Nat), (findA true L2 (boardV x) i (ents t) = some none ∧ upd t x v = t ++ [(x, v)]) ∨ ∃ j u, findA true L2 (boardV x) i (ents t) = some (some (i + j, u)) ∧ ents (upd t x v) = lset (ents t) j (boardV x, .int .i64 v)
  | [], i => .inl ⟨rfl, rfl⟩
  | e :: t, i => by
    have hk : keyEq true L2 (boardV x) (boardV e.1) = some (isKey (x.1, x.2) e) := keyEq_board (x.1, x.2) e
    simp only [ents, List.map_cons, findA, hk, upd]
    cases isKey (x.1, x.2) e with
    | true => exact .inr ⟨0, _, rfl, rfl⟩
    | false =>
      rcases find_upd x v t (i + 1) with ⟨h1, h2⟩ | ⟨j, u, h1, h2⟩
      · exact .inl ⟨h1, by simp [h2]⟩
      · refine .inr ⟨j + 1, u, ?_, ?_⟩
        · rw [show i + (j + 1) = i + 1 + j by omega]; exact h1
        · simp only [ents] at h2
          simp [lset, h2]
theorem keyOk_pair (x : Int × Int) : keyOk true L2 (pairV x) = true := by
  simp [keyOk, pairV, isAggV, cellsOf, L2, leavesEq, leafEq]
theorem keyOk_board (x : Nat × Nat) : keyOk true L2 (boardV x) = true := keyOk_pair (x.1, x.2)
theorem a_lookup {base : Nat} {h : Heap} {e : Env} {m k : Operand} {r : Nat} {t : Tab} {x : Int × Int} (hm : ev h e m = some (.map (some r))) (hk : ev h e k = some (pairV x)) (hr : h.get r = some (.map (ents t))) : aop h base e (.lookup true [.i .i64, .i .i64] (.int .i64 0) false m k) = some (.val (.int .i64 (look t x)) h) := by
  have e2 : ([.i .i64, .i .i64] : List Leaf) = L2 := rfl
  rcases find_look x t 0 with ⟨h1, h2⟩ | ⟨j, h1⟩
  · simp only [aop, hm, hk, hr, e2, keyOk_pair, h1, h2, cond_true, cond_false]
  · simp only [aop, hm, hk, hr, e2, keyOk_pair, h1, cond_true, cond_false]
theorem a_mapUp {base : Nat} {h : Heap} {e : Env} {m k v : Operand} {r : Nat} {t : Tab} {x : Nat × Nat} {z : Int} (hm : ev h e m = some (.map (some r))) (hk : ev h e k = some (boardV x)) (hv : ev h e v = some (.int .i64 z)) (hr : h.get r = some (.map (ents t))) : aop h base e (.mapUp true [.i .i64, .i .i64] m k v) = some (.val (.tuple #[]) (h.wr base r (.map (ents (upd t x z))))) := by
  have e2 : ([.i .i64, .i .i64] : List Leaf) = L2 := rfl
  rcases find_upd x z t 0 with ⟨h1, h2⟩ | ⟨j, u, h1, h2⟩
  · have h3 : lcat (ents t) [(boardV x, .int .i64 z)] = ents (upd t x z) := by rw [h2, lcat_eq]; simp [ents]
    simp only [aop, hm, hk, hv, hr, e2, keyOk_board, h1, cond_true, h3]
  · rw [Nat.zero_add] at h1
    simp only [aop, hm, hk, hv, hr, e2, keyOk_board, h1, cond_true, ← h2]
theorem a_max {base : Nat} {h : Heap} {e : Env} {x y : Operand} {a b : Int} (hx : ev h e x = some (.int .i64 a)) (hy : ev h e y = some (.int .i64 b)) : aop h base e (.minmax true [x, y]) = some (.val (.int .i64 (mx a b)) h) := by
  simp only [aop, evs, hx, hy, mmA, if_true, bindV, mx]
theorem ne_loop {H : Heap} {a l : Nat} {vs : List Value} {o : Bool} {s : Nat} {e : Env} {ps : List Nat} {as b : ACode} {st : Nat} {p : AExit} (ha : H.get a = some (.cells vs o s)) (hl : H.get l = some (.loop e ps as b st p)) : a ≠ l := by
  rintro rfl; rw [ha] at hl; cases hl
theorem ne_map {H : Heap} {a l : Nat} {vs : List (Value × Value)} {e : Env} {ps : List Nat} {as b : ACode} {st : Nat} {p : AExit} (ha : H.get a = some (.map vs)) (hl : H.get l = some (.loop e ps as b st p)) : a ≠ l := by
  rintro rfl; rw [ha] at hl; cases hl
theorem ne_cm {H : Heap} {a l : Nat} {vs : List Value} {o : Bool} {s : Nat} {ms : List (Value × Value)} (ha : H.get a = some (.cells vs o s)) (hl : H.get l = some (.map ms)) : a ≠ l := by
  rintro rfl; rw [ha] at hl; cases hl
theorem wD_storeA {base : Nat} {e : Env} {h : Heap} {ops : List AOper} {bf : List Nat} {rs rs' : List Rec} {Q : Env → Heap → Prop} {i mask : Nat} {is : List Nat} {dst : Option Nat} {x y : Operand} {n b o sz : Nat} {vs ws : List Value} {v : Value} {g : Option (Nat × Bool)} {er : Env} (ho : lget ops i = some ⟨dst, .store n x y, g⟩) (hm : lget bf i = some mask)
    (he : keepE e (slotsA ⟨dst, .store n x y, g⟩) = er) (hw : wantedA er g = some true) (hx : ev { h with log := [] } er x = some (.pointer (some ⟨b, o, none⟩))) (hy : ev { h with log := [] } er y = some v) (hb : h.get b = some (.cells vs true sz))
    (hc : (Nat.beq (llen (cellsOf v)) n && Nat.ble (o + n) (llen vs) && ones (cellsOf v)) = true) (hws : lputs vs o (cellsOf v) = ws) (hlt : b < h.next) (hrs : recsAfter (h.wr base b (.cells ws true sz)) base [b] mask rs = some rs')
    (H : WD T base ops bf Q is rs' (dstE e dst (.tuple #[])) (h.wr base b (.cells ws true sz))) : WD T base ops bf Q (i :: is) rs e h :=
  wD_actH ho hm he hw rfl (a_store (h := { h with log := [] }) hx hy hb hc hws) (eq_wrA hlt _) (lg_wr hlt _) hrs H
theorem log_wr_q {h : Heap} {base q : Nat} {o : AObj} (hl : h.log = []) (hq : q < base) : (h.wr base q o).log = [q] := by
  simp only [Heap.wr, nblt_of hq, hl, lhas, cond_true, cond_false]
def ints (l : List Int) : List Value := l.map fun x => .int .i64 x
theorem ints_get {l : List Int} {i : Nat} (hi : i < l.length) : (ints l)[i]? = some (.int .i64 (l.getD i 0)) := by
  simp [ints, List.getD, List.getElem?_eq_getElem hi]
set_option maxHeartbeats 4000000 in
theorem leaf_round (hp : primAS T) {H : Heap} (hr : Rdy H) {q p3 bb l2 n wc : Nat} {x7 x8 fv s1 s2 : Value} {wa : Option Addr} {own : Bool} {ws : List Int} {m : Int} {x : Nat × Nat} (hx : x.2 < n) (gl : H.get l2 = some (.loop [(3, .pointer (some ⟨p3, 0, none⟩)), (7, x7), (8, x8), (9, .pointer (some ⟨q, 0, none⟩)), (21, fv)] [22] asgL bodyL 0 .normal))
    (gq : H.get q = some (.cells [.int .i64 m] true 1)) (g3 : H.get p3 = some (.cells [.pointer (some ⟨bb, 0, none⟩)] true 1)) (gb : H.get bb = some (.cells [s1, s2, .slice wa n wc] own 1)) (hws : SliceOf H 1 (.slice wa n wc) n (ints ws)) :
    FW T (.yield l2) [nodeV x] H fun r H' => r = .ret (.bool true) ∧ (∀ z ∈ H'.log, q ≤ z ∧ z < q + 1) ∧ (∀ z, z < H.next → z ≠ q → H'.get z = H.get z) ∧ H'.get q = some (.cells [.int .i64 (mx m (ws.getD x.2 0))] true 1) := by
  have hlen : ws.length = n := by have := hws.len; simp [ints] at this; omega
  rcases hws.inv with ⟨_, _, h0, _⟩ | ⟨b0, o0, cap, hv, s, hcap⟩
  · omega
  cases hv
  obtain ⟨vs, own', t0, g5, g6⟩ := slice_elem1 s (ints_get (l := ws) (i := x.2) (by omega))
  clear s
  have n1 := ne_loop gq gl
  have n2 := ne_loop g3 gl
  have n3 := ne_loop gb gl
  have n4 := ne_loop g5 gl
  have k1 := WF.get_lt hr.wf gq
  have k2 := WF.get_lt hr.wf g3
  have k3 := WF.get_lt hr.wf gb
  have k4 := WF.get_lt hr.wf g5
  have k5 := WF.get_lt hr.wf gl
  refine FW.yieldN hp (R := fun H' => (∀ z, z < H.next → z ≠ q → H'.get z = H.get z) ∧ H'.get q = some (.cells [.int .i64 (mx m (ws.getD x.2 0))] true 1)) gl rfl k5 ?_
  unfold asgL nodeV
  refine wE_region ?_; refine wO_val a_new ?_; refine wO_val (a_store (by exact rfl) (by exact rfl) (by (simp (disch := first | omega | (simp only [z1, z2]; omega)) only [z3, z4, z5, z6, z7, z1, z2, *]; exact rfl)) (by exact rfl) (by exact rfl)) ?_; refine wO_nil ?_
  refine kR_k (by simp only [keepE, dstE, geT, paramsE, cond_true, cond_false, Nat.beq]; exact rfl) ?_
  refine ⟨rfl, by (simp (disch := first | omega | (simp only [z1, z2]; omega)) only [z3, z4, z5, z6, z7, z1, z2, *]; exact rfl), ?_⟩
  unfold bodyL
  refine wE_block ?_; refine wE_draw ?_; refine wD_quiet rfl rfl rfl (by exact rfl) (by exact rfl) (by exact rfl) (a_load (by exact rfl) (by (simp (disch := first | omega | (simp only [z1, z2]; omega)) only [z3, z4, z5, z6, z7, z1, z2, *]; exact rfl)) (by exact rfl)) ?_
  refine wD_quiet rfl rfl rfl (by exact rfl) (by exact rfl) (by exact rfl) (a_load (by exact rfl) (by (simp (disch := first | omega | (simp only [z1, z2]; omega)) only [z3, z4, z5, z6, z7, z1, z2, *]; exact rfl)) (by exact rfl)) ?_
  refine wD_quiet rfl rfl rfl (by exact rfl) (by exact rfl) (by exact rfl) (a_nilchk (by exact rfl)) ?_; refine wD_quiet rfl rfl rfl (by exact rfl) (by exact rfl) (by exact rfl) (a_faddr (by exact rfl)) ?_
  refine wD_quiet rfl rfl rfl (by exact rfl) (by exact rfl) (by exact rfl) (a_load (by exact rfl) (by (simp (disch := first | omega | (simp only [z1, z2]; omega)) only [z3, z4, z5, z6, z7, z1, z2, *]; exact rfl)) (by exact rfl)) ?_
  refine wD_quiet rfl rfl rfl (by exact rfl) (by exact rfl) (by exact rfl) (a_faddr (by exact rfl)) ?_
  refine wD_quiet rfl rfl rfl (by exact rfl) (by exact rfl) (by exact rfl) (a_load (by exact rfl) (by (simp (disch := first | omega | (simp only [z1, z2]; omega)) only [z3, z4, z5, z6, z7, z1, z2, *]; exact rfl)) (by exact rfl)) ?_
  refine wD_quiet rfl rfl rfl (by exact rfl) (by exact rfl) (by exact rfl) (a_iaddrS (by exact rfl) (by exact rfl) hx) ?_
  skip
  refine wD_quiet rfl rfl rfl (by exact rfl) (by exact rfl) (by exact rfl) (a_load (by exact rfl) (by (simp (disch := first | omega | (simp only [z1, z2]; omega)) only [z3, z4, z5, z6, z7, z1, z2, *]; exact rfl)) g6) ?_
  refine wD_quiet rfl rfl rfl (by exact rfl) (by exact rfl) (by exact rfl) (a_max (by exact rfl) (by exact rfl)) ?_
  refine wD_storeA (ws := [.int .i64 (mx m (ws.getD x.2 0))]) rfl rfl rfl (by exact rfl) (by exact rfl) (by exact rfl) (by (simp (disch := first | omega | (simp only [z1, z2]; omega)) only [z3, z4, z5, z6, z7, z1, z2, *]; exact rfl)) (by exact rfl) (by exact rfl) (by (simp only [z1, z2]; omega)) (by apply ra_dropC rfl; apply ra_dropC rfl; apply ra_dropC rfl; apply ra_dropC rfl; apply ra_dropC rfl; apply ra_dropC rfl; apply ra_dropC rfl; apply ra_dropC rfl; apply ra_dropC rfl; apply ra_dropC rfl; exact ra_nil) ?_
  refine wD_nil ?_; refine kR_k (by simp only [keepE, dstE, geT, paramsE, cond_true, cond_false, Nat.beq]; exact rfl) ?_; refine kB_n ?_
  refine ⟨rfl, ⟨_, by (simp (disch := first | omega | (simp only [z1, z2]; omega)) only [z3, z4, z5, z6, z7, z1, z2, *]; exact rfl), rfl⟩, ?_, ?_⟩
  · intro z hz
    rw [log_wr_q (by exact (Heap.log_wr_new (Nat.zero_le _)).trans ((Heap.log_wr_new (Nat.le_refl _)).trans hr.log)) k1] at hz
    simp at hz; omega
  · intro h5 hn hag hl5
    refine ⟨fun z hz hne => ?_, (hag q k1 n1).trans (by (simp (disch := first | omega | (simp only [z1, z2]; omega)) only [z3, z4, z5, z6, z7, z1, z2, *]; done))⟩
    by_cases hz2 : z = l2
    · rw [hz2]; exact hl5.trans gl.symm
    · exact (hag z hz hz2).trans ((z5 hne).trans ((z5 hz2).trans ((z5 (by omega)).trans (z4 hz))))
set_option maxHeartbeats 8000000 in
theorem cut_round (hp : primAS T) (f106 : T 106 = some f106) {H : Heap} (hr : Rdy H) {q p3 p7 p8 bb mb l2 a b : Nat} {fv s1 s3 : Value} {own : Bool} {kerf m : Int} {t : Tab} {x : Nat × Nat} (hx : x.1 = 3 ∨ x.1 = 4) (hx2 : x.2 < 1000) (ha : a < 1000) (hb : b < 1000) (hk : 0 ≤ kerf ∧ kerf ≤ 100)
    (hsum : -4611686018427387904 ≤ look t (oneB x a b) + look t (twoB kerf x a b) ∧ look t (oneB x a b) + look t (twoB kerf x a b) ≤ 4611686018427387904) (gl : H.get l2 = some (.loop [(3, .pointer (some ⟨p3, 0, none⟩)), (7, .pointer (some ⟨p7, 0, none⟩)), (8, .pointer (some ⟨p8, 0, none⟩)), (9, .pointer (some ⟨q, 0, none⟩)), (35, fv)] [36] asgC bodyC 0 .normal))
    (gq : H.get q = some (.cells [.int .i64 m] true 1)) (g3 : H.get p3 = some (.cells [.pointer (some ⟨bb, 0, none⟩)] true 1)) (g7 : H.get p7 = some (.cells [.map (some mb)] true 1)) (g8 : H.get p8 = some (.cells [.int .i64 a, .int .i64 b] true 1)) (gb : H.get bb = some (.cells [s1, .int .i64 kerf, s3] own 1)) (gm : H.get mb = some (.map (ents t))) (h7 : p7 ≠ q) :
    FW T (.yield l2) [nodeV x] H fun r H' => r = .ret (.bool true) ∧ (∀ z ∈ H'.log, q ≤ z ∧ z < q + 1) ∧ (∀ z, z < H.next → z ≠ q → H'.get z = H.get z) ∧ H'.get q = some (.cells [.int .i64 (mx m (look t (oneB x a b) + look t (twoB kerf x a b)))] true 1) := by
  have n1 := ne_loop gq gl
  have n2 := ne_loop g3 gl
  have n3 := ne_loop gb gl
  have n4 := ne_loop g7 gl
  have n5 := ne_loop g8 gl
  have n6 := ne_map gm gl
  have n7 := ne_cm gq gm
  have k1 := WF.get_lt hr.wf gq
  have k2 := WF.get_lt hr.wf g3
  have k3 := WF.get_lt hr.wf gb
  have k4 := WF.get_lt hr.wf g7
  have k5 := WF.get_lt hr.wf gl
  have k6 := WF.get_lt hr.wf g8
  have k7 := WF.get_lt hr.wf gm
  refine FW.yieldN hp (R := fun H' => (∀ z, z < H.next → z ≠ q → H'.get z = H.get z) ∧ H'.get q = some (.cells [.int .i64 (mx m (look t (oneB x a b) + look t (twoB kerf x a b)))] true 1)) gl rfl k5 ?_
  unfold asgC
  refine wE_region ?_; refine wO_val a_new ?_; refine wO_val (a_store (by exact rfl) (by exact rfl) (by (simp (disch := first | omega | (simp only [z1, z2]; omega)) only [z3, z4, z5, z6, z7, z1, z2, *]; exact rfl)) (by exact rfl) (by exact rfl)) ?_; refine wO_nil ?_
  refine kR_k (by simp only [keepE, dstE, geT, paramsE, cond_true, cond_false, Nat.beq]; exact rfl) ?_
  refine ⟨rfl, by (simp (disch := first | omega | (simp only [z1, z2]; omega)) only [z3, z4, z5, z6, z7, z1, z2, *]; exact rfl), ?_⟩
  unfold bodyC
  refine wE_block ?_; refine wE_seq ?_; refine wE_region ?_; refine wO_val (a_load (by exact rfl) (by (simp (disch := first | omega | (simp only [z1, z2]; omega)) only [z3, z4, z5, z6, z7, z1, z2, *]; exact rfl)) (by exact rfl)) ?_
  refine wO_val (a_loadN (by exact rfl) (by (simp (disch := first | omega | (simp only [z1, z2]; omega)) only [z3, z4, z5, z6, z7, z1, z2, *]; exact rfl)) (by exact rfl) (by exact rfl)) ?_
  refine wO_val (a_loadN (by exact rfl) (by (simp (disch := first | omega | (simp only [z1, z2]; omega)) only [z3, z4, z5, z6, z7, z1, z2, *]; exact rfl)) (by exact rfl) (by exact rfl)) ?_
  refine wO_call (a_call (by exact rfl) (by exact rfl) (by exact rfl) (by exact rfl)) ?_
  have gB : (((H.push (.cells [.int .u8 0, .int .i64 0] true 1)).wr H.next H.next (.cells [.int .u8 x.1, .int .i64 x.2] true 1)).wr 0 l2 (.loop [(3, .pointer (some ⟨p3, 0, none⟩)), (7, .pointer (some ⟨p7, 0, none⟩)), (8, .pointer (some ⟨p8, 0, none⟩)), (9, .pointer (some ⟨q, 0, none⟩)), (35, fv)] [36] asgC bodyC 1 .normal)).get bb = some (.cells [s1, .int .i64 kerf, s3] own 1) := by (simp (disch := first | omega | (simp only [z1, z2]; omega)) only [z3, z4, z5, z6, z7, z1, z2, *]; done)
  have hw : WF (((H.push (.cells [.int .u8 0, .int .i64 0] true 1)).wr H.next H.next (.cells [.int .u8 x.1, .int .i64 x.2] true 1)).wr 0 l2 (.loop [(3, .pointer (some ⟨p3, 0, none⟩)), (7, .pointer (some ⟨p7, 0, none⟩)), (8, .pointer (some ⟨p8, 0, none⟩)), (9, .pointer (some ⟨q, 0, none⟩)), (35, fv)] [36] asgC bodyC 1 .normal)) := ((hr.wf.push _).as (AS.wr _ _ _ _)).as (AS.wr _ _ _ _)
  refine FW.pu (split106 hp f106 (.of hw) gB (Nat.lt_succ_of_lt k3) hk hx hx2 ha hb) ?_
  refine wO_val (a_mov (by exact rfl)) ?_; refine wO_val (a_extract (by exact rfl) (by exact rfl)) ?_; refine wO_val (a_extract (by exact rfl) (by exact rfl)) ?_; refine wO_val a_new ?_; refine wO_val a_new ?_
  refine wO_val (a_store (by exact rfl) (by exact rfl) (by (simp (disch := first | omega | (simp only [z1, z2]; omega) | (simp only [z1, z2]; done) | fail) only [z8, z4, z5, z9, z7, z1, z2, *]; exact rfl)) (by exact rfl) (by exact rfl)) ?_
  refine wO_val (a_store (by exact rfl) (by exact rfl) (by (simp (disch := first | omega | (simp only [z1, z2]; omega) | (simp only [z1, z2]; done) | fail) only [z8, z4, z5, z9, z7, z1, z2, *]; exact rfl)) (by exact rfl) (by exact rfl)) ?_; refine wO_nil ?_
  refine kR_k (by simp only [keepE, dstE, geT, paramsE, cond_true, cond_false, Nat.beq]; exact rfl) ?_; refine kS_n ?_; refine wE_draw ?_
  refine wD_quiet rfl rfl rfl (by exact rfl) (by exact rfl) (by exact rfl) (a_load (by exact rfl) (by (simp (disch := first | omega | (simp only [z1, z2]; omega)) only [z3, z4, z5, z6, z7, z1, z2, *]; exact rfl)) (by exact rfl)) ?_
  refine wD_quiet rfl rfl rfl (by exact rfl) (by exact rfl) (by exact rfl) (a_load (by exact rfl) (by (simp (disch := first | omega | (simp only [z1, z2]; omega)) only [z3, z4, z5, z6, z7, z1, z2, *]; exact rfl)) (by exact rfl)) ?_
  refine wD_quiet rfl rfl rfl (by exact rfl) (by exact rfl) (by exact rfl) (a_loadN (by exact rfl) (by (simp (disch := first | omega | (simp only [z1, z2]; omega) | (simp only [z1, z2]; done) | fail) only [z8, z4, z5, z9, z7, z1, z2, *]; exact rfl)) (by exact rfl) (by exact rfl)) ?_
  refine wD_quiet rfl rfl rfl (by exact rfl) (by exact rfl) (by exact rfl) (a_lookup (x := oneB x a b) (by exact rfl) (by exact rfl) (by (simp (disch := first | omega | (simp only [z1, z2]; omega)) only [z3, z4, z5, z6, z7, z1, z2, *]; exact rfl))) ?_
  refine wD_quiet rfl rfl rfl (by exact rfl) (by exact rfl) (by exact rfl) (a_load (by exact rfl) (by (simp (disch := first | omega | (simp only [z1, z2]; omega)) only [z3, z4, z5, z6, z7, z1, z2, *]; exact rfl)) (by exact rfl)) ?_
  refine wD_quiet rfl rfl rfl (by exact rfl) (by exact rfl) (by exact rfl) (a_loadN (by exact rfl) (by (simp (disch := first | omega | (simp only [z1, z2]; omega) | (simp only [z1, z2]; done) | fail) only [z8, z4, z5, z9, z7, z1, z2, *]; exact rfl)) (by exact rfl) (by exact rfl)) ?_
  refine wD_quiet rfl rfl rfl (by exact rfl) (by exact rfl) (by exact rfl) (a_lookup (x := twoB kerf x a b) (by exact rfl) (by exact rfl) (by (simp (disch := first | omega | (simp only [z1, z2]; omega)) only [z3, z4, z5, z6, z7, z1, z2, *]; exact rfl))) ?_
  refine wD_quiet rfl rfl rfl (by exact rfl) (by exact rfl) (by exact rfl) (a_num (by exact rfl) (by exact rfl) (m_add (wrapA_i64 (by omega) (by omega)))) ?_
  refine wD_quiet rfl rfl rfl (by exact rfl) (by exact rfl) (by exact rfl) (a_max (by exact rfl) (by exact rfl)) ?_
  refine wD_storeA (ws := [.int .i64 (mx m (look t (oneB x a b) + look t (twoB kerf x a b)))]) rfl rfl rfl (by exact rfl) (by exact rfl) (by exact rfl) (by (simp (disch := first | omega | (simp only [z1, z2]; omega)) only [z3, z4, z5, z6, z7, z1, z2, *]; exact rfl)) (by exact rfl) (by exact rfl) (by (simp only [z1, z2]; omega)) (by apply ra_dropC rfl; apply ra_dropC rfl; apply ra_dropC rfl; apply ra_dropC rfl; apply ra_dropC rfl; apply ra_dropC rfl; apply ra_dropC rfl; apply ra_dropC rfl; apply ra_dropC rfl; exact ra_nil) ?_
  refine wD_nil ?_; refine kR_k (by simp only [keepE, dstE, geT, paramsE, cond_true, cond_false, Nat.beq]; exact rfl) ?_; refine kB_n ?_
  refine ⟨rfl, ⟨_, by (simp (disch := first | omega | (simp only [z1, z2]; omega)) only [z3, z4, z5, z6, z7, z1, z2, *]; exact rfl), rfl⟩, ?_, ?_⟩
  · intro z hz
    rw [log_wr_q (by simp (disch := first | omega | (simp only [z1, z2]; omega)) only [Heap.log_wr_new, Heap.log_push]; exact hr.log) k1] at hz
    simp at hz; omega
  · intro h5 hn hag hl5
    refine ⟨fun z hz hne => ?_, (hag q k1 n1).trans (by (simp (disch := first | omega | (simp only [z1, z2]; omega)) only [z3, z4, z5, z6, z7, z1, z2, *]; done))⟩
    by_cases hz2 : z = l2
    · rw [hz2]; exact hl5.trans gl.symm
    · exact (hag z hz hz2).trans (by simp (disch := first | omega | (simp only [z1, z2]; omega)) only [z5, z4])
end Go.A.Pk
end
section
set_option maxRecDepth 100000
namespace Go.A.Pk
variable {T : Nat → Option AFunc}
theorem mergeLog_ge {base : Nat} : ∀ {m l : List Nat}, LogGe base m → mergeLog base l m = l
  | [], _, _ => rfl
  | b :: m, l, h => by
    have hb := h b (List.mem_cons_self ..)
    simp only [mergeLog, nblt_not (show ¬ b < base by omega), cond_false]
    exact mergeLog_ge fun x hx => h x (List.mem_cons_of_mem _ hx)
theorem SliceOf.agree {h h' : Heap} {sz n : Nat} {v : Value} {cs : List Value} (s : SliceOf h sz v n cs) (hn : h.next ≤ h'.next) (ha : ∀ b vs o t, b < h.next → h.get b = some (.cells vs o t) → h'.get b = h.get b) : SliceOf h' sz v n cs := by
  cases s with
  | nil => exact .nil
  | mem s hc =>
    obtain ⟨vs, own, t, h1, h2⟩ := s.obj
    exact .mem ⟨Nat.lt_of_lt_of_le s.lt hn, ⟨vs, own, t, (ha _ _ _ _ s.lt h1).trans h1, h2⟩, s.len⟩ hc
theorem PW.yld (hp : primAS T) {l2 q : Nat} {H0 : Heap} {L : AObj} {O : List (Nat × Nat) → AObj} {V : Nat × Nat → Value} {all : List (Nat × Nat)} (hq : q < l2)
    (hround : ∀ done x H', x ∈ all → Rdy H' → l2 < H'.next → PW l2 q H0 L O done H' → FW T (.yield l2) [V x] H' fun r H'' => r = .ret (.bool true) ∧ (∀ z ∈ H''.log, q ≤ z ∧ z < q + 1) ∧ (∀ z, z < H'.next → z ≠ q → H''.get z = H'.get z) ∧ H''.get q = some (O (done ++ [x]))) :
    Yld T q (l2 + 1) l2 V all (PW l2 q H0 L O) where
  yields := fun done x H hx hr hN hP => FW.mono' (FW.withAS hp (hround done x H hx hr hN hP) hr.log) fun r H' ⟨hA, h1, h2, h3, h4⟩ => ⟨h1, fun z hz => by have := h2 z hz; omega, ⟨fun y hy hne => (h3 y (by omega) hne).trans (hP.old y hy hne), h4, (h3 l2 (by omega) (by omega)).trans hP.loop, Nat.lt_of_lt_of_le hP.nx hA.next⟩⟩
  stable := fun done H H' p hn h => PW.stable hq done H H' p hn h
theorem inner_range {base : Nat} {rnd : Option Nat} {e : Env} {ds : Dfs} {Q : XQ} {h1 : Heap} {f : Operand} {g q : Nat} {first cap : Array Value} {ps : List Nat} {asg body : ACode} {all : List (Nat × Nat)} {O : List (Nat × Nat) → AObj} (hr : roundA h1 rnd = true) (hf : ev h1 e f = some (.func (.func g) first cap)) (hnc : notCode (T g) = false)
    (hB : base ≤ h1.next) (hq : base ≤ q) (hlog : h1.log = []) (w1 : WF h1)
    (HG : Gr T g (lcat first.toList (lcat [.func (.yield h1.next) #[] #[]] cap.toList)) { h1.push (.loop e ps asg body 0 .normal) with log := [] } q fun v h' => v = .tuple #[] ∧ PW h1.next q h1 (.loop e ps asg body 0 .normal) O all h') (hqn : q < h1.next)
    (K : ∀ h3, h3.log = [] → WF h3 → h1.next ≤ h3.next → (∀ z, z < h1.next → z ≠ q → h3.get z = h1.get z) → h3.get q = some (O all) → Q .normal e ds h3) : WE T base rnd (.rangeFunc f ps asg body) Q e ds h1 := by
  refine wE_range hr hf hnc (CW.mono HG ?_)
  rintro r h2 ⟨hk, v, rfl, rfl, hP⟩
  refine ⟨_, rfl, _, _, _, _, _, _, hP.loop, rfl, ?_⟩
  have hl2 : LogGe base h2.log := fun z hz => Nat.le_trans hq (hk.log (LogGe.nil _) z hz)
  refine K _ ?_ ?_ ?_ (fun z hz hne => ?_) ?_
  · rw [Heap.log_wr_new hB]
    show mergeLog base h1.log h2.log = []
    rw [mergeLog_ge hl2, hlog]
  · exact ((hk.wf ((w1.push _).log _)).log _).as (AS.wr _ _ _ _)
  · have := hk.next
    have e1 : h1.next + 1 ≤ h2.next := this
    show h1.next ≤ h2.next
    omega
  · exact (z5 (by omega)).trans (hP.old z hz hne)
  · exact (z5 (by omega)).trans hP.obj
def leafM (ws : List Int) (xs : List (Nat × Nat)) (m : Int) : Int := xs.foldl (fun m x => mx m (ws.getD x.2 0)) m
def cutM (kerf : Int) (t : Tab) (a b : Nat) (xs : List (Nat × Nat)) (m : Int) : Int := xs.foldl (fun m x => mx m (look t (oneB x a b) + look t (twoB kerf x a b))) m
def val (kerf : Int) (ws : List Int) (kl : List Kd) (t : Tab) (a b : Nat) : Int := cutM kerf t a b (cutsL a b) (leafM ws (leavesL a b kl 0) 0)
theorem leafM_snoc (ws : List Int) (xs : List (Nat × Nat)) (x : Nat × Nat) (m : Int) : leafM ws (xs ++ [x]) m = mx (leafM ws xs m) (ws.getD x.2 0) := by simp [leafM]
theorem cutM_snoc (kerf : Int) (t : Tab) (a b : Nat) (xs : List (Nat × Nat)) (x : Nat × Nat) (m : Int) : cutM kerf t a b (xs ++ [x]) m = mx (cutM kerf t a b xs m) (look t (oneB x a b) + look t (twoB kerf x a b)) := by simp [cutM]
theorem leafAt_idx {k : Kd} {i a b : Nat} : ∀ x ∈ leafAt k i a b, x.2 = i := by
  intro x hx
  unfold leafAt at hx
  simp only [List.mem_append] at hx
  rcases hx with hx | hx <;> split at hx <;> simp at hx <;> rw [hx]
theorem leaves_idx {a b : Nat} : ∀ {l : List Kd} {i : Nat}, ∀ x ∈ leavesL a b l i, x.2 < i + l.length
  | [], i, x, hx => by cases hx
  | k :: l, i, x, hx => by
    simp only [leavesL, List.mem_append] at hx
    rcases hx with hx | hx
    · rw [leafAt_idx x hx]; simp
    · have := leaves_idx x hx; simp; omega
theorem row_of {c n : Nat} {x : Nat × Nat} (h : x ∈ row c n) : x.1 = c ∧ 1 ≤ x.2 ∧ x.2 ≤ n := by
  simp only [row, List.mem_map, List.mem_range] at h
  obtain ⟨i, hi, rfl⟩ := h
  exact ⟨rfl, by simp, by simp; omega⟩
theorem cuts_of {a b : Nat} {x : Nat × Nat} (h : x ∈ cutsL a b) : (x.1 = 3 ∧ 1 ≤ x.2 ∧ x.2 ≤ a - 1) ∨ (x.1 = 4 ∧ 1 ≤ x.2 ∧ x.2 ≤ b - 1) := by
  simp only [cutsL, List.mem_append] at h
  exact h.imp row_of row_of
theorem WO.gen {base : Nat} {rnd : Option Nat} {Q : XQ} {ops : List AOper} {e : Env} {ds : Dfs} {h : Heap} (hK : ∀ hA, hA = h → WO T base rnd Q ops e ds hA) : WO T base rnd Q ops e ds h := hK h rfl
structure FnsV (T : Nat → Option AFunc) : Prop where
  p : primAS T
  f94 : T 94 = some f94
  f104 : T 104 = some f104
  f105 : T 105 = some f105
  f106 : T 106 = some f106
  f136 : T 136 = some f136
  f140 : T 140 = some f140
  f141 : T 141 = some f141
  f83 : T 83 = some f83
set_option maxHeartbeats 8000000 in
theorem best_round (F : FnsV T) {H : Heap} (hr : Rdy H) {p3 pm mb bb l n c wc a b : Nat} {sa wa : Option Addr} {fv : Value} {kerf : Int} {ws : List Int} {kl : List Kd} {t : Tab} (ha : a < 1000) (hb : b < 1000) (hn : n < 1000) (hk : 0 ≤ kerf ∧ kerf ≤ 100)
    (hsum : ∀ x ∈ cutsL a b, -4611686018427387904 ≤ look t (oneB x a b) + look t (twoB kerf x a b) ∧ look t (oneB x a b) + look t (twoB kerf x a b) ≤ 4611686018427387904) (gl : H.get l = some (.loop [(3, .pointer (some ⟨p3, 0, none⟩)), (7, .pointer (some ⟨pm, 0, none⟩)), (17, fv)] [18] asgO bodyO 0 .normal))
    (g3 : H.get p3 = some (.cells [.pointer (some ⟨bb, 0, none⟩)] true 1)) (gm : H.get pm = some (.cells [.map (some mb)] true 1)) (gt : H.get mb = some (.map (ents t))) (gb : H.get bb = some (.cells [.slice sa n c, .int .i64 kerf, .slice wa n wc] true 1)) (hks : SliceOf H 5 (.slice sa n c) n (kcs kl)) (hws : SliceOf H 1 (.slice wa n wc) n (ints ws)) :
    FW T (.yield l) [boardV (a, b)] H fun r H' => r = .ret (.bool true) ∧ (∀ z ∈ H'.log, mb ≤ z ∧ z < mb + 1) ∧ (∀ z, z < H.next → z ≠ mb → H'.get z = H.get z) ∧ H'.get mb = some (.map (ents (upd t (a, b) (val kerf ws kl t a b)))) := by
  have n2 := ne_loop g3 gl
  have n3 := ne_loop gb gl
  have n4 := ne_loop gm gl
  have n6 := ne_map gt gl
  have m1 := ne_cm g3 gt
  have m2 := ne_cm gm gt
  have m3 := ne_cm gb gt
  have k2 := WF.get_lt hr.wf g3
  have k3 := WF.get_lt hr.wf gb
  have k4 := WF.get_lt hr.wf gm
  have k5 := WF.get_lt hr.wf gl
  have k7 := WF.get_lt hr.wf gt
  refine FW.yieldN F.p (R := fun H' => (∀ z, z < H.next → z ≠ mb → H'.get z = H.get z) ∧ H'.get mb = some (.map (ents (upd t (a, b) (val kerf ws kl t a b))))) gl rfl k5 ?_
  unfold asgO
  refine wE_region ?_; refine wO_val a_new ?_; refine wO_val (a_store (by exact rfl) (by exact rfl) (by (simp (disch := first | omega | (simp only [z1, z2]; omega)) only [z3, z4, z5, z6, z7, z1, z2, *]; exact rfl)) (by exact rfl) (by exact rfl)) ?_; refine wO_nil ?_
  refine kR_k (by simp only [keepE, dstE, geT, paramsE, cond_true, cond_false, Nat.beq]; exact rfl) ?_
  refine ⟨rfl, by (simp (disch := first | omega | (simp only [z1, z2]; omega)) only [z3, z4, z5, z6, z7, z1, z2, *]; exact rfl), ?_⟩
  unfold bodyO
  refine wE_block ?_; refine wE_seq ?_; refine wE_region ?_; refine wO_val a_new ?_
  refine wO_val (a_store (by exact rfl) (by exact rfl) (by (simp (disch := first | omega | (simp only [z1, z2]; omega) | (simp only [z1, z2]; done) | fail) only [z8, z4, z5, z9, z7, z1, z2, *]; exact rfl)) (by exact rfl) (by exact rfl)) ?_; refine wO_nil ?_
  refine kR_k (by simp only [keepE, dstE, geT, paramsE, cond_true, cond_false, Nat.beq]; exact rfl) ?_; refine kS_n ?_; refine wE_seq ?_; refine wE_seq ?_; refine wE_region ?_
  refine wO_val (a_load (by exact rfl) (by (simp (disch := first | omega | (simp only [z1, z2]; omega)) only [z3, z4, z5, z6, z7, z1, z2, *]; exact rfl)) (by exact rfl)) ?_
  refine wO_val (a_loadN (by exact rfl) (by (simp (disch := first | omega | (simp only [z1, z2]; omega)) only [z3, z4, z5, z6, z7, z1, z2, *]; exact rfl)) (by exact rfl) (by exact rfl)) ?_
  refine WO.gen ?_
  intro hA hAe
  have A1 : ∀ z, z < H.next → z ≠ l → hA.get z = H.get z := fun z hz hne => by rw [hAe]; simp (disch := first | omega | (simp only [z1, z2]; omega)) only [z5, z4]
  have A2 : hA.get l = some (.loop [(3, .pointer (some ⟨p3, 0, none⟩)), (7, .pointer (some ⟨pm, 0, none⟩)), (17, fv)] [18] asgO bodyO 1 .normal) := by rw [hAe]; (simp (disch := first | omega | (simp only [z1, z2]; omega)) only [z3, z4, z5, z6, z7, z1, z2, *]; exact rfl)
  have A3 : hA.get H.next = some (.cells [.int .i64 a, .int .i64 b] true 1) := by rw [hAe]; (simp (disch := first | omega | (simp only [z1, z2]; omega)) only [z3, z4, z5, z6, z7, z1, z2, *]; exact rfl)
  have A4 : hA.get (H.next + 1) = some (.cells [.int .i64 0] true 1) := by rw [hAe]; (simp (disch := first | omega | (simp only [z1, z2]; omega) | (simp only [z1, z2]; done) | fail) only [z8, z4, z5, z9, z7, z1, z2, *]; exact rfl)
  have A5 : hA.next = H.next + 2 := by rw [hAe]; rfl
  have A6 : hA.log = [] := by rw [hAe]; simp (disch := first | omega | (simp only [z1, z2]; omega)) only [Heap.log_wr_new, Heap.log_push]; exact hr.log
  have A7 : WF hA := by rw [hAe]; exact ((((hr.wf.push _).as (AS.wr _ _ _ _)).as (AS.wr _ _ _ _)).push _).as (AS.wr _ _ _ _)
  clear hAe
  refine wO_call (a_call (by exact rfl) (by exact rfl) (by exact rfl) (by exact rfl)) ?_
  refine FW.al (leaves104 F.p F.f104 (.of A7) bb a b) (fun _ _ _ q => q) ?_
  rintro _ h1 hx1 ⟨rfl, hn1, gp, gx⟩
  have eA : ({ hA with log := [] } : Heap).next = H.next + 2 := A5
  rw [eA] at hn1 gp gx
  rw [eA]
  have B1 : ∀ z, z < H.next → z ≠ l → h1.get z = H.get z := fun z hz hne => (hx1.old z (by omega)).trans (A1 z hz hne)
  have B2 : h1.get l = some (.loop [(3, .pointer (some ⟨p3, 0, none⟩)), (7, .pointer (some ⟨pm, 0, none⟩)), (17, fv)] [18] asgO bodyO 1 .normal) := (hx1.old l (by omega)).trans A2
  have B3 : h1.get H.next = some (.cells [.int .i64 a, .int .i64 b] true 1) := (hx1.old _ (by omega)).trans A3
  have B4 : h1.get (H.next + 1) = some (.cells [.int .i64 0] true 1) := (hx1.old _ (by omega)).trans A4
  have B6 : h1.log = [] := hx1.log.trans A6
  have B7 : WF h1 := hx1.wf A7
  have hlen : kl.length = n := by have := hks.len; rw [kcs_length] at this; omega
  clear hx1 A1 A2 A3 A4 A6 A7
  refine wO_nil ?_; refine kR_k (by simp only [keepE, dstE, geT, paramsE, cond_true, cond_false, Nat.beq]; exact rfl) ?_; refine kS_n ?_; refine wE_block ?_
  refine inner_range (q := H.next + 1) (all := leavesL a b kl 0) (O := fun d => .cells [.int .i64 (leafM ws d 0)] true 1) (round_ok B2) (by rfl) (by rw [F.f140]; rfl) (by omega) (by omega) B6 B7 ?_ (by omega) ?_
  · refine leaves140 F.p F.f140 (.of (B7.push _)) (pb := H.next + 2) (bb := bb) (px := H.next + 3) (l' := h1.next) (N := h1.next + 1) (lo := H.next + 1) (a := a) (b := b) (n := n) (c := c) (sa := sa) (l := kl) (v1 := .int .i64 kerf) (v2 := .slice wa n wc) (Nat.le_refl _) (by show H.next + 1 ≤ h1.next + 1; omega) hn
      (PW.yld F.p (by omega) fun done x H' hx hr' hlt hP => ?_) ((z4 (by omega)).trans gp) ((z4 (by omega)).trans ((B1 bb k3 n3).trans gb)) (fun d H' hP => ?_) (fun d H' hP => (hP.old _ (by omega) (by omega)).trans gx) ⟨fun z hz _ => z4 hz, (z4 (by omega)).trans B4, z3 _ _, Nat.lt_succ_self _⟩
    · refine FW.mono' (leaf_round F.p hr' (x := x) (n := n) (by have := leaves_idx x hx; omega) hP.loop hP.obj ((hP.old p3 (by omega) (by omega)).trans ((B1 p3 k2 n2).trans g3)) ((hP.old bb (by omega) (by omega)).trans ((B1 bb k3 n3).trans gb)) (SliceOf.agree hws (by omega) fun b0 vs o t hb he => (hP.old b0 (by omega) (by omega)).trans (B1 b0 hb (ne_loop he gl)))) ?_
      rintro r H'' ⟨q1, q2, q3, q4⟩
      exact ⟨q1, q2, q3, by rw [leafM_snoc]; exact q4⟩
    · have := hP.nx
      exact SliceOf.agree hks (by omega) fun b0 vs o t hb he => (hP.old b0 (by omega) (by omega)).trans (B1 b0 hb (ne_loop he gl))
  intro h3 c1 c2 c3 c4 c5
  have D1 : ∀ z, z < H.next → z ≠ l → h3.get z = H.get z := fun z hz hne => (c4 z (by omega) (by omega)).trans (B1 z hz hne)
  have D2 : h3.get l = some (.loop [(3, .pointer (some ⟨p3, 0, none⟩)), (7, .pointer (some ⟨pm, 0, none⟩)), (17, fv)] [18] asgO bodyO 1 .normal) := (c4 l (by omega) (by omega)).trans B2
  have D3 : h3.get H.next = some (.cells [.int .i64 a, .int .i64 b] true 1) := (c4 _ (by omega) (by omega)).trans B3
  have D5 : h3.get p3 = some (.cells [.pointer (some ⟨bb, 0, none⟩)] true 1) := (D1 p3 k2 n2).trans g3
  clear B1 B2 B3 B4 B6 B7 c4 gp gx
  refine kB_n ?_; refine kS_n ?_; refine wE_seq ?_; refine wE_seq ?_; refine wE_region ?_; refine wO_val (a_load (by exact rfl) (by assumption) (by exact rfl)) ?_; refine wO_val (a_loadN (by exact rfl) (by assumption) (by exact rfl) (by exact rfl)) ?_
  refine wO_call (a_call (by exact rfl) (by exact rfl) (by exact rfl) (by exact rfl)) ?_
  refine FW.al (cuts105 F.p F.f105 (.of c2) _ a b) (fun _ _ _ q => q) ?_
  rintro _ h4 hx4 ⟨rfl, hn4, gx4⟩
  have e3 : ({ h3 with log := [] } : Heap).next = h3.next := rfl
  rw [e3] at hn4 gx4
  rw [e3]
  have E1 : ∀ z, z < H.next → z ≠ l → h4.get z = H.get z := fun z hz hne => (hx4.old z (by omega)).trans (D1 z hz hne)
  have E2 : h4.get l = some (.loop [(3, .pointer (some ⟨p3, 0, none⟩)), (7, .pointer (some ⟨pm, 0, none⟩)), (17, fv)] [18] asgO bodyO 1 .normal) := (hx4.old l (by omega)).trans D2
  have E3 : h4.get H.next = some (.cells [.int .i64 a, .int .i64 b] true 1) := (hx4.old _ (by omega)).trans D3
  have E4 : h4.get (H.next + 1) = some (.cells [.int .i64 (leafM ws (leavesL a b kl 0) 0)] true 1) := (hx4.old _ (by omega)).trans c5
  have E6 : h4.log = [] := hx4.log.trans c1
  have E7 : WF h4 := hx4.wf c2
  clear hx4 D1 D2 D3 D5 c1 c2 c5
  refine wO_nil ?_; refine kR_k (by simp only [keepE, dstE, geT, paramsE, cond_true, cond_false, Nat.beq]; exact rfl) ?_; refine kS_n ?_; refine wE_block ?_
  refine inner_range (q := H.next + 1) (all := cutsL a b) (O := fun d => .cells [.int .i64 (cutM kerf t a b d (leafM ws (leavesL a b kl 0) 0))] true 1) (round_ok E2) (by rfl) (by rw [F.f141]; rfl) (by omega) (by omega) E6 E7 ?_ (by omega) ?_
  · refine cuts141 F.p F.f141 (.of (E7.push _)) (bx := h3.next) (l := h4.next) (N := h4.next + 1) (lo := H.next + 1) (a := a) (b := b) (Nat.le_refl _) (by show H.next + 1 ≤ h4.next + 1; omega) ha hb
      (PW.yld F.p (by omega) fun done x H' hx hr' hlt hP => ?_) (fun d H' hP => (hP.old _ (by omega) (by omega)).trans gx4) ⟨fun z hz _ => z4 hz, (z4 (by omega)).trans E4, z3 _ _, Nat.lt_succ_self _⟩
    have hxc := cuts_of hx
    refine FW.mono' (cut_round F.p F.f106 hr' (x := x) (t := t) (by omega) (by omega) ha hb hk (hsum x hx) hP.loop hP.obj ((hP.old p3 (by omega) (by omega)).trans ((E1 p3 k2 n2).trans g3)) ((hP.old pm (by omega) (by omega)).trans ((E1 pm k4 n4).trans gm)) ((hP.old H.next (by omega) (by omega)).trans E3) ((hP.old bb (by omega) (by omega)).trans ((E1 bb k3 n3).trans gb)) ((hP.old mb (by omega) (by omega)).trans ((E1 mb k7 n6).trans gt)) (show pm ≠ H.next + 1 by omega)) ?_
    rintro r H'' ⟨q1, q2, q3, q4⟩
    exact ⟨q1, q2, q3, by rw [cutM_snoc]; exact q4⟩
  intro h5 c1 c2 c3 c4 c5
  have G1 : ∀ z, z < H.next → z ≠ l → h5.get z = H.get z := fun z hz hne => (c4 z (by omega) (by omega)).trans (E1 z hz hne)
  have G2 : h5.get l = some (.loop [(3, .pointer (some ⟨p3, 0, none⟩)), (7, .pointer (some ⟨pm, 0, none⟩)), (17, fv)] [18] asgO bodyO 1 .normal) := (c4 l (by omega) (by omega)).trans E2
  have G3 : h5.get H.next = some (.cells [.int .i64 a, .int .i64 b] true 1) := (c4 _ (by omega) (by omega)).trans E3
  have G7 : h5.get pm = some (.cells [.map (some mb)] true 1) := (G1 pm k4 n4).trans gm
  have G8 : h5.get mb = some (.map (ents t)) := (G1 mb k7 n6).trans gt
  clear E1 E2 E3 E4 E6 E7 c4 gx4
  refine kB_n ?_; refine kS_n ?_; refine wE_region ?_; refine wO_val (a_load (by exact rfl) (by assumption) (by exact rfl)) ?_; refine wO_val (a_loadN (by exact rfl) (by assumption) (by exact rfl) (by exact rfl)) ?_; refine wO_val (a_load (by exact rfl) (by assumption) (by exact rfl)) ?_
  refine wO_val (a_mapUp (x := (a, b)) (by exact rfl) (by exact rfl) (by exact rfl) G8) ?_
  refine wO_nil ?_; refine kR_k (by simp only [keepE, dstE, geT, paramsE, cond_true, cond_false, Nat.beq]; exact rfl) ?_; refine kB_n ?_
  refine ⟨rfl, ⟨_, by (simp (disch := first | omega | (simp only [z1, z2]; omega)) only [z3, z4, z5, z6, z7, z1, z2, *]; exact rfl), rfl⟩, ?_, ?_⟩
  · intro z hz
    rw [log_wr_q c1 k7] at hz
    simp at hz; omega
  · intro h6 hn6 hag hl6
    refine ⟨fun z hz hne => ?_, (hag mb k7 n6).trans (Heap.get_wr_new G8)⟩
    by_cases hz2 : z = l
    · rw [hz2]; exact hl6.trans gl.symm
    · exact (hag z hz hz2).trans ((z5 hne).trans (G1 z hz hz2))
end Go.A.Pk
end
section
set_option maxRecDepth 100000
namespace Go.A.Pk
variable {T : Nat → Option AFunc}
theorem a_mkMap {base : Nat} {h : Heap} {e : Env} : aop h base e .mkMap = some (.val (.map (some h.next)) (h.push (.map []))) := rfl
def Bd (W : Int) (t : Tab) : Prop := ∀ e ∈ t, 1 ≤ e.1.1 ∧ 1 ≤ e.1.2 ∧ 0 ≤ e.2 ∧ e.2 ≤ W * ((e.1.1 : Int) * (e.1.2 : Int))
theorem look_bd {W : Int} : ∀ {t : Tab} (x : Int × Int), Bd W t → look t x = 0 ∨ (1 ≤ x.1 ∧ 1 ≤ x.2 ∧ 0 ≤ look t x ∧ look t x ≤ W * (x.1 * x.2))
  | [], _, _ => .inl rfl
  | e :: t, x, h => by
    simp only [look]
    by_cases hk : isKey x e = true
    · rw [if_pos hk]
      have h1 := h e (List.mem_cons_self ..)
      simp only [isKey, decide_eq_true_eq] at hk
      rw [hk.1, hk.2]
      exact .inr ⟨by omega, by omega, h1.2.2.1, h1.2.2.2⟩
    · rw [if_neg hk]
      exact look_bd x fun e he => h e (List.mem_cons_of_mem _ he)
theorem upd_bd {W : Int} {x : Nat × Nat} {v : Int} (hx : 1 ≤ x.1 ∧ 1 ≤ x.2) (hv : 0 ≤ v ∧ v ≤ W * ((x.1 : Int) * (x.2 : Int))) : ∀ {t : Tab}, Bd W t → Bd W (upd t x v)
  | [], _, e, he => by
    simp only [upd, List.mem_singleton] at he
    subst he
    exact ⟨hx.1, hx.2, hv.1, hv.2⟩
  | e0 :: t, h, e, he => by
    simp only [upd] at he
    split at he
    · rcases List.mem_cons.1 he with rfl | he
      · exact ⟨hx.1, hx.2, hv.1, hv.2⟩
      · exact h e (List.mem_cons_of_mem _ he)
    · rcases List.mem_cons.1 he with rfl | he
      · exact h e (List.mem_cons_self ..)
      · exact upd_bd hx hv (fun e he => h e (List.mem_cons_of_mem _ he)) e he
theorem mx_le {a b c : Int} (h1 : a ≤ c) (h2 : b ≤ c) : mx a b ≤ c := by unfold mx; split <;> assumption
theorem mx_ge {a b : Int} : a ≤ mx a b ∧ b ≤ mx a b := by unfold mx; split <;> omega
theorem area_mono {W a b c d : Int} (hW : 0 ≤ W) (ha : 0 ≤ a) (hab : a ≤ c) (hb : 0 ≤ b) (hbd : b ≤ d) : W * (a * b) ≤ W * (c * d) :=
  Int.mul_le_mul_of_nonneg_left (Int.le_trans (Int.mul_le_mul_of_nonneg_right hab hb) (Int.mul_le_mul_of_nonneg_left hbd (by omega))) hW
theorem cut_bd {W kerf : Int} {t : Tab} (hW : 0 ≤ W) (hk : 0 ≤ kerf) (ht : Bd W t) {a b : Nat} {x : Nat × Nat} (hx : x ∈ cutsL a b) : 0 ≤ look t (oneB x a b) + look t (twoB kerf x a b) ∧ look t (oneB x a b) + look t (twoB kerf x a b) ≤ W * ((a : Int) * (b : Int)) := by
  have h1 := look_bd (oneB x a b) ht
  have h2 := look_bd (twoB kerf x a b) ht
  have h0 : 0 ≤ W * ((a : Int) * (b : Int)) := Int.mul_nonneg hW (Int.mul_nonneg (by omega) (by omega))
  rcases cuts_of hx with ⟨e3, hl, hu⟩ | ⟨e4, hl, hu⟩
  · simp only [oneB, twoB, e3, if_true] at h1 h2 ⊢
    rcases h1 with h1 | h1
    · rcases h2 with h2 | h2
      · rw [h1, h2]; omega
      · have := area_mono (W := W) (a := (a : Int) - x.2 - kerf) (b := b) (c := a) (d := b) hW (by omega) (by omega) (by omega) (Int.le_refl _)
        rw [h1]; omega
    · rcases h2 with h2 | h2
      · have := area_mono (W := W) (a := (x.2 : Int)) (b := b) (c := a) (d := b) hW (by omega) (by omega) (by omega) (Int.le_refl _)
        rw [h2]; omega
      · have e : W * ((x.2 : Int) * b) + W * (((a : Int) - x.2 - kerf) * b) = W * (((x.2 : Int) + ((a : Int) - x.2 - kerf)) * b) := by rw [Int.add_mul, Int.mul_add]
        have := area_mono (W := W) (a := (x.2 : Int) + ((a : Int) - x.2 - kerf)) (b := b) (c := a) (d := b) hW (by omega) (by omega) (by omega) (Int.le_refl _)
        omega
  · have n3 : ¬ x.1 = 3 := by omega
    simp only [oneB, twoB, if_neg n3] at h1 h2 ⊢
    rcases h1 with h1 | h1
    · rcases h2 with h2 | h2
      · rw [h1, h2]; omega
      · have := area_mono (W := W) (a := a) (b := (b : Int) - x.2 - kerf) (c := a) (d := b) hW (by omega) (Int.le_refl _) (by omega) (by omega)
        rw [h1]; omega
    · rcases h2 with h2 | h2
      · have := area_mono (W := W) (a := a) (b := (x.2 : Int)) (c := a) (d := b) hW (by omega) (Int.le_refl _) (by omega) (by omega)
        rw [h2]; omega
      · have e : W * ((a : Int) * x.2) + W * ((a : Int) * ((b : Int) - x.2 - kerf)) = W * ((a : Int) * ((x.2 : Int) + ((b : Int) - x.2 - kerf))) := by rw [Int.mul_add (a : Int), Int.mul_add W]
        have := area_mono (W := W) (a := a) (b := (x.2 : Int) + ((b : Int) - x.2 - kerf)) (c := a) (d := b) hW (by omega) (Int.le_refl _) (by omega) (by omega)
        omega
theorem leafM_bd {W B : Int} {ws : List Int} (hws : ∀ x ∈ ws, 0 ≤ x ∧ x ≤ W) (hWB : W ≤ B) (hW : 0 ≤ W) : ∀ {xs : List (Nat × Nat)} {m : Int}, 0 ≤ m → m ≤ B → 0 ≤ leafM ws xs m ∧ leafM ws xs m ≤ B
  | [], m, h1, h2 => ⟨h1, h2⟩
  | x :: xs, m, h1, h2 => by
    have hx : 0 ≤ ws.getD x.2 0 ∧ ws.getD x.2 0 ≤ W := by
      by_cases hi : x.2 < ws.length
      · have := hws _ (List.getElem_mem hi)
        simpa [List.getD, List.getElem?_eq_getElem hi] using this
      · have : ws.getD x.2 0 = 0 := by simp [List.getD, List.getElem?_eq_none (by omega : ws.length ≤ x.2)]
        rw [this]; omega
    exact leafM_bd hws hWB hW (xs := xs) (m := mx m (ws.getD x.2 0)) (Int.le_trans h1 mx_ge.1) (mx_le h2 (by omega))
theorem cutM_bd {B kerf : Int} {t : Tab} {a b : Nat} : ∀ {xs : List (Nat × Nat)} {m : Int}, (∀ x ∈ xs, look t (oneB x a b) + look t (twoB kerf x a b) ≤ B) → 0 ≤ m → m ≤ B → 0 ≤ cutM kerf t a b xs m ∧ cutM kerf t a b xs m ≤ B
  | [], m, _, h1, h2 => ⟨h1, h2⟩
  | x :: xs, m, hx, h1, h2 => cutM_bd (xs := xs) (m := mx m _) (fun y hy => hx y (List.mem_cons_of_mem _ hy)) (Int.le_trans h1 mx_ge.1) (mx_le h2 (hx x (List.mem_cons_self ..)))
theorem val_bd {W kerf : Int} {ws : List Int} {kl : List Kd} {t : Tab} (hW : 0 ≤ W) (hk : 0 ≤ kerf) (hws : ∀ x ∈ ws, 0 ≤ x ∧ x ≤ W) (ht : Bd W t) {a b : Nat} (ha : 1 ≤ a) (hb : 1 ≤ b) : 0 ≤ val kerf ws kl t a b ∧ val kerf ws kl t a b ≤ W * ((a : Int) * (b : Int)) := by
  have hWB : W ≤ W * ((a : Int) * (b : Int)) := by
    have := area_mono (W := W) (a := 1) (b := 1) (c := a) (d := b) hW (by omega) (by omega) (by omega) (by omega)
    omega
  obtain ⟨h1, h2⟩ := leafM_bd (xs := leavesL a b kl 0) (m := 0) hws hWB hW (Int.le_refl _) (by omega)
  exact cutM_bd (fun x hx => (cut_bd hW hk ht hx).2) h1 h2
def tabL (kerf : Int) (ws : List Int) (kl : List Kd) (done : List (Nat × Nat)) : Tab := done.foldl (fun t x => upd t x (val kerf ws kl t x.1 x.2)) []
theorem tabL_snoc (kerf : Int) (ws : List Int) (kl : List Kd) (done : List (Nat × Nat)) (x : Nat × Nat) : tabL kerf ws kl (done ++ [x]) = upd (tabL kerf ws kl done) x (val kerf ws kl (tabL kerf ws kl done) x.1 x.2) := by simp [tabL]
theorem boards_of : ∀ {w h : Nat} {x : Nat × Nat}, x ∈ boardsL w h → 1 ≤ x.1 ∧ x.1 ≤ w ∧ 1 ≤ x.2 ∧ x.2 ≤ h
  | 0, _, _, hx => by cases hx
  | w + 1, h, x, hx => by
    simp only [boardsL, List.mem_append] at hx
    rcases hx with hx | hx
    · have := boards_of hx; omega
    · have := row_of hx; omega
set_option maxHeartbeats 8000000 in
theorem best83 (F : FnsV T) {h : Heap} (hr : Rdy h) {bb n c wc w ht : Nat} {sa wa : Option Addr} {kerf W : Int} {ws : List Int} {kl : List Kd} (hw : w < 1000) (hh : ht < 1000) (hn : n < 1000) (hk : 0 ≤ kerf ∧ kerf ≤ 100) (hW : 0 ≤ W ∧ W ≤ 1000000000) (hws0 : ∀ x ∈ ws, 0 ≤ x ∧ x ≤ W)
    (gb : h.get bb = some (.cells [.slice sa n c, .int .i64 kerf, .slice wa n wc] true 1)) (hks : SliceOf h 5 (.slice sa n c) n (kcs kl)) (hws : SliceOf h 1 (.slice wa n wc) n (ints ws)) :
    Al T 83 [.pointer (some ⟨bb, 0, none⟩), .int .i64 w, .int .i64 ht] h fun v h' => ∃ r, v = .map (some r) ∧ h'.get r = some (.map (ents (tabL kerf ws kl (boardsL w ht)))) := by
  refine .of F.p F.f83 hr (fun v h1 hv q => by obtain ⟨r, rfl, _⟩ := q; cases hv) ?_
  have kb := WF.get_lt hr.wf gb
  refine wE_seq ?_; refine wE_region ?_; refine wO_val (a_box (by exact rfl) (by exact rfl)) ?_; refine wO_val (a_mov (by exact rfl)) ?_; refine wO_nil ?_; refine kR_k (by simp only [keepE, dstE, geT, paramsE, cond_true, cond_false, Nat.beq]; exact rfl) ?_; refine kS_n ?_; refine wE_seq ?_; refine wE_region ?_
  refine wO_val a_mkMap ?_
  refine wO_val a_new ?_; refine wO_val (a_store (by exact rfl) (by exact rfl) (by (simp (disch := first | omega | (simp only [z1, z2]; omega) | (simp only [z1, z2]; done) | fail) only [z8, z4, z5, z9, z7, z1, z2, *]; exact rfl)) (by exact rfl) (by exact rfl)) ?_
  refine wO_nil ?_; refine kR_k (by simp only [keepE, dstE, geT, paramsE, cond_true, cond_false, Nat.beq]; exact rfl) ?_; refine kS_n ?_; refine wE_seq ?_; refine wE_seq ?_; refine wE_region ?_; refine wO_val (a_mov (by exact rfl)) ?_; refine wO_val (a_mov (by exact rfl)) ?_
  refine WO.gen ?_
  intro hA hAe
  have A1 : ∀ z, z < h.next → hA.get z = h.get z := fun z hz => by rw [hAe]; simp (disch := first | omega | (simp only [z1, z2]; omega)) only [z5, z4]
  have A2 : hA.get h.next = some (.cells [.pointer (some ⟨bb, 0, none⟩)] true 1) := by rw [hAe]; (simp (disch := first | omega | (simp only [z1, z2]; omega)) only [z3, z4, z5, z6, z7, z1, z2, *]; exact rfl)
  have A3 : hA.get (h.next + 1) = some (.map []) := by rw [hAe]; (simp (disch := first | omega | (simp only [z1, z2]; omega) | (simp only [z1, z2]; done) | fail) only [z8, z4, z5, z9, z7, z1, z2, *]; done)
  have A4 : hA.get (h.next + 2) = some (.cells [.map (some (h.next + 1))] true 1) := by rw [hAe]; (simp (disch := first | omega | (simp only [z1, z2]; omega) | (simp only [z1, z2]; done) | fail) only [z8, z4, z5, z9, z7, z1, z2, *]; exact rfl)
  have A5 : hA.next = h.next + 3 := by rw [hAe]; rfl
  have A6 : hA.log = [] := by rw [hAe]; simp (disch := first | omega | (simp only [z1, z2]; omega)) only [Heap.log_wr_new, Heap.log_push]; exact hr.log
  have A7 : WF hA := by rw [hAe]; exact (((hr.wf.push _).push _).push _).as (AS.wr _ _ _ _)
  clear hAe
  refine wO_call (a_call (by exact rfl) (by exact rfl) (by exact rfl) (by exact rfl)) ?_
  refine FW.al (boards94 F.p F.f94 (.of A7) w ht) (fun _ _ _ q => q) ?_
  rintro _ h1 hx1 ⟨rfl, hn1, gp, gx⟩
  have eA : ({ hA with log := [] } : Heap).next = h.next + 3 := A5
  rw [eA] at hn1 gp gx
  rw [eA]
  have B1 : ∀ z, z < h.next → h1.get z = h.get z := fun z hz => (hx1.old z (by omega)).trans (A1 z hz)
  have B2 : h1.get h.next = some (.cells [.pointer (some ⟨bb, 0, none⟩)] true 1) := (hx1.old _ (by omega)).trans A2
  have B3 : h1.get (h.next + 1) = some (.map []) := (hx1.old _ (by omega)).trans A3
  have B4 : h1.get (h.next + 2) = some (.cells [.map (some (h.next + 1))] true 1) := (hx1.old _ (by omega)).trans A4
  have B6 : h1.log = [] := hx1.log.trans A6
  have B7 : WF h1 := hx1.wf A7
  clear hx1 A1 A2 A3 A4 A6 A7
  refine wO_nil ?_; refine kR_k (by simp only [keepE, dstE, geT, paramsE, cond_true, cond_false, Nat.beq]; exact rfl) ?_; refine kS_n ?_; refine wE_block ?_
  refine inner_range (q := h.next + 1) (all := boardsL w ht) (O := fun d => .map (ents (tabL kerf ws kl d))) rfl (by rfl) (by rw [F.f136]; rfl) (by omega) (by omega) B6 B7 ?_ (by omega) ?_
  · have Y : Yld T (h.next + 1) (h1.next + 1) h1.next boardV (boardsL w ht) fun d H => PW h1.next (h.next + 1) h1 (.loop [(3, .pointer (some ⟨h.next, 0, none⟩)), (7, .pointer (some ⟨h.next + 2, 0, none⟩)), (17, fn2 136 (h.next + 3) (h.next + 4))] [18] asgO bodyO 0 .normal) (fun d => .map (ents (tabL kerf ws kl d))) d H ∧ Bd W (tabL kerf ws kl d) := by
      refine ⟨fun done x H hx hrH hN hP => ?_, fun d H H' hP hN hag => ⟨PW.stable (by omega) d H H' hP.1 hN hag, hP.2⟩⟩
      obtain ⟨hP, hB⟩ := hP
      have hxb := boards_of hx
      have hV := val_bd (kl := kl) hW.1 hk.1 hws0 hB hxb.1 hxb.2.2.1
      obtain ⟨x1, x2⟩ := x
      simp only at hxb hV
      refine FW.mono' (FW.withAS F.p (best_round F hrH (a := x1) (b := x2) (t := tabL kerf ws kl done) (by omega) (by omega) hn hk (fun y hy => ?_) hP.loop ((hP.old _ (by omega) (by omega)).trans B2) ((hP.old _ (by omega) (by omega)).trans B4) hP.obj ((hP.old bb (by omega) (by omega)).trans ((B1 bb kb).trans gb)) (SliceOf.agree hks (by omega) fun b0 vs o t hb he => (hP.old b0 (by omega) (by omega)).trans (B1 b0 hb)) (SliceOf.agree hws (by omega) fun b0 vs o t hb he => (hP.old b0 (by omega) (by omega)).trans (B1 b0 hb))) hrH.log) ?_
      · have h1 := cut_bd hW.1 hk.1 hB hy
        have h2 : W * ((x1 : Int) * (x2 : Int)) ≤ 1000000000 * (1000 * 1000) := Int.le_trans (area_mono (W := W) (a := x1) (b := x2) (c := 1000) (d := 1000) hW.1 (by omega) (by omega) (by omega) (by omega)) (Int.mul_le_mul_of_nonneg_right hW.2 (by omega))
        omega
      · rintro r H' ⟨hA', q1, q2, q3, q4⟩
        refine ⟨q1, fun z hz => by have := q2 z hz; omega, ⟨fun y hy hne => (q3 y (by omega) hne).trans (hP.old y hy hne), by rw [tabL_snoc]; exact q4, (q3 _ (by omega) (by omega)).trans hP.loop, Nat.lt_of_lt_of_le hP.nx hA'.next⟩, ?_⟩
        rw [tabL_snoc]
        exact upd_bd ⟨hxb.1, hxb.2.2.1⟩ hV hB
    refine CW.mono (boards136 F.p F.f136 (.of (B7.push _)) (bw := h.next + 3) (bh := h.next + 4) (l := h1.next) (N := h1.next + 1) (lo := h.next + 1) (w := w) (ht := ht) (Nat.le_refl _) (by show h.next + 1 ≤ h1.next + 1; omega) hw hh Y (fun d H hP => (hP.1.old _ (by omega) (by omega)).trans gp) (fun d H hP => (hP.1.old _ (by omega) (by omega)).trans gx)
      ⟨⟨fun z hz _ => z4 hz, (z4 (by omega)).trans B3, z3 _ _, Nat.lt_succ_self _⟩, fun e he => by cases he⟩) ?_
    rintro r h2 ⟨q1, v, q2, q3, q4, _⟩
    exact ⟨q1, v, q2, q3, q4⟩
  intro h3 c1 c2 c3 c4 c5
  have D4 : h3.get (h.next + 2) = some (.cells [.map (some (h.next + 1))] true 1) := (c4 _ (by omega) (by omega)).trans B4
  refine kB_n ?_; refine kS_n ?_; refine wE_seq ?_; refine wE_region ?_; refine wO_val (a_load (by exact rfl) (by assumption) (by exact rfl)) ?_; refine wO_val (a_mov (by exact rfl)) ?_; refine wO_nil ?_; refine kR_k (by simp only [keepE, dstE, geT, paramsE, cond_true, cond_false, Nat.beq]; exact rfl) ?_; refine kS_n ?_; refine wE_ret ?_
  exact endA_ret (vs := [.map (some (h.next + 1))]) c1 (by rfl) ⟨_, rfl, c5⟩
end Go.A.Pk
end
section
set_option maxRecDepth 100000
namespace Go.A.Pk
variable {T : Nat → Option AFunc}
inductive WslB (lo : Nat) (h : Heap) : Value → List Int → Prop
  | nil : WslB lo h (.slice none 0 0) []
  | full {q xs} : lo ≤ q → q < h.next → h.get q = some (.cells (ints xs) true 1) → xs ≠ [] → WslB lo h (.slice (some ⟨q, 0, none⟩) xs.length UNK) xs
theorem worth_succ {l : List Kd} {i : Nat} {x : Kd} (h : l[i]? = some x) : (l.take (i + 1)).map (·.worth) = (l.take i).map (·.worth) ++ [x.worth] := by
  rw [List.take_add_one, h]; simp
def StartQ (a : Option Addr) (n c : Nat) (kerf : Int) (l : List Kd) (er : Int) (v : Value) (h' : Heap) : Prop := ∃ p, v = .tuple #[.pointer p, .int .i64 er] ∧
  (er = 0 → ∃ bb wa wc, p = some ⟨bb, 0, none⟩ ∧ h'.get bb = some (.cells [.slice a n c, .int .i64 kerf, .slice wa n wc] true 1) ∧ SliceOf h' 1 (.slice wa n wc) n (ints (l.map (·.worth))))
theorem StartQ.gc {a : Option Addr} {n c : Nat} {kerf : Int} {l : List Kd} {er : Int} (h : Heap) (v : Value) (h1 : Heap) (hv : noRef v = true) (q : StartQ a n c kerf l er v h1) : StartQ a n c kerf l er v h := by
  obtain ⟨p, rfl, h2⟩ := q
  refine ⟨p, rfl, fun he => ?_⟩
  obtain ⟨bb, wa, wc, rfl, _⟩ := h2 he
  simp [noRef, flatL, flat, scalL, scal, scal1] at hv
set_option maxHeartbeats 4000000 in
theorem startedB75 (G : FnsE T) {h : Heap} (hr : Rdy h) {a : Option Addr} {n c : Nat} {l : List Kd} (hs : SliceOf h 5 (.slice a n c) n (kcs l)) (kerf : Int) (hn : n < 1000000) {v : Value} {m : Nat} {bl : List Bool} (hb : SliceOf h 1 v m (bcs bl)) (hm : m < 1000000) :
    Al T 75 [.agg #[.slice a n c, .int .i64 kerf], v] h (StartQ a n c kerf l (startE kerf l bl)) := by
  refine .of G.toFnsA.p G.f75 hr (StartQ.gc h) ?_
  have hx : Ext h (h.push (.cells [.slice a n c, .int .i64 kerf] true 1)) := (Ext.refl h).push _
  have hlen : l.length = n := by have := hs.len; rw [kcs_length] at this; omega
  refine wE_seq ?_; refine wE_region ?_; refine wO_val (a_box (by exact rfl) (by exact rfl)) ?_; refine wO_val (a_mov (by exact rfl)) ?_; refine wO_val (a_mov (by exact rfl)) ?_; refine wO_nil ?_; refine kR_k (by simp only [keepE, dstE, geT, paramsE, cond_true, cond_false, Nat.beq]; exact rfl) ?_; refine kS_n ?_; refine wE_seq ?_; refine wE_seq ?_; refine wE_region ?_
  refine wO_val (a_loadN (by exact rfl) (by (simp (disch := first | omega | (simp only [z1, z2]; omega)) only [z3, z4, z5, z6, z7, z1, z2, *]; exact rfl)) (by exact rfl) (by exact rfl)) ?_
  refine wO_call (a_call (by exact rfl) (by exact rfl) (by exact rfl) (by exact rfl)) ?_
  refine FW.pu (check66 G.toFnsA (.of (hx.wf hr.wf)) ((hs.ext hx).log []) kerf hn) ?_
  unfold startE
  by_cases hc : chk kerf l = 0
  · rw [if_pos hc, hc]
    refine wO_val (a_mov (by exact rfl)) ?_; refine wO_nil ?_; refine kR_k (by simp only [keepE, dstE, geT, paramsE, cond_true, cond_false, Nat.beq]; exact rfl) ?_; refine kS_n ?_; refine wE_seq ?_; refine wE_region ?_; refine wO_val (a_mov (by exact rfl)) ?_; refine wO_val (a_num (by exact rfl) (by exact rfl) (by exact m_neqF (by omega))) ?_; refine wO_nil ?_
    refine kR_k (by simp only [keepE, dstE, geT, paramsE, cond_true, cond_false, Nat.beq]; exact rfl) ?_; refine kS_n ?_; refine wE_false (by exact rfl) ?_; refine wE_skip ?_; refine kS_n ?_; refine wE_seq ?_; refine wE_seq ?_; refine wE_region ?_; refine wO_val (a_mov (by exact rfl)) ?_
    refine wO_call (a_call (by exact rfl) (by exact rfl) (by exact rfl) (by exact rfl)) ?_
    refine FW.pu (contains122 G.toFnsC (.of (hx.wf hr.wf)) ((hb.ext hx).log []) hm) ?_
    cases hbl : bl.all id with
    | false =>
      refine wO_nil ?_; refine kR_k (by simp only [keepE, dstE, geT, paramsE, cond_true, cond_false, Nat.beq]; exact rfl) ?_; refine kS_n ?_; refine wE_true (by exact rfl) ?_; refine wE_seq ?_; refine wE_region ?_; refine wO_val (a_mov (by exact rfl)) ?_; refine wO_val (a_mov (by exact rfl)) ?_; refine wO_nil ?_
      refine kR_k (by simp only [keepE, dstE, geT, paramsE, cond_true, cond_false, Nat.beq]; exact rfl) ?_; refine kS_n ?_; refine wE_ret ?_; refine kS_r ?_
      exact endA_ret (vs := [.pointer none, .int .i64 1]) hr.log rfl ⟨_, rfl, fun e => by cases e⟩
    | true =>
      refine wO_nil ?_; refine kR_k (by simp only [keepE, dstE, geT, paramsE, cond_true, cond_false, Nat.beq]; exact rfl) ?_; refine kS_n ?_; refine wE_false (by exact rfl) ?_; refine wE_skip ?_; refine kS_n ?_; refine wE_seq ?_; refine wE_region ?_
      refine wO_val (a_loadN (by exact rfl) (by (simp (disch := first | omega | (simp only [z1, z2]; omega)) only [z3, z4, z5, z6, z7, z1, z2, *]; exact rfl)) (by exact rfl) (by exact rfl)) ?_; refine wO_val (a_build (by exact rfl)) ?_; refine wO_val (a_box (by exact rfl) (by exact rfl)) ?_
      refine wO_val (a_mov (by exact rfl)) ?_; refine wO_nil ?_; refine kR_k (by simp only [keepE, dstE, geT, paramsE, cond_true, cond_false, Nat.beq]; exact rfl) ?_; refine kS_n ?_; refine wE_seq ?_; refine wE_seq ?_; refine wE_region ?_; refine wO_val (a_faddr (by exact rfl)) ?_
      refine wO_val (a_load (by exact rfl) (by (simp (disch := first | omega | (simp only [z1, z2]; omega)) only [z3, z4, z5, z6, z7, z1, z2, *]; exact rfl)) (by exact rfl)) ?_; refine wO_val (a_len1 (by exact rfl)) ?_; refine wO_val (a_mov (by exact rfl)) ?_; refine wO_nil ?_
      refine kR_k (by simp only [keepE, dstE, geT, paramsE, cond_true, cond_false, Nat.beq]; exact rfl) ?_; refine kS_n ?_; refine wE_block ?_
      refine wE_loop (fun k e ds h' => ∃ (i : Nat) (w : Value) (xs : List Int), i ≤ n ∧ k = n - i ∧ e = [(7, .pointer (some ⟨h.next + 1, 0, none⟩)), (21, .slice a n c), (22, .int .i64 n), (23, .int .i64 i)] ∧ ds = [] ∧ Ext (h.push (.cells [.slice a n c, .int .i64 kerf] true 1)) h' ∧
          h.next + 1 < h'.next ∧ h'.get (h.next + 1) = some (.cells [.slice a n c, .int .i64 kerf, w] true 1) ∧ WslB (h.next + 2) h' w xs ∧ Nonempty (PLift (xs = (l.take i).map (·.worth))))
        ⟨0, .slice none 0 0, [], Nat.zero_le _, rfl, rfl, rfl, (Ext.refl _).push _, Nat.lt_succ_self _, by (simp (disch := first | omega | (simp only [z1, z2]; omega) | (simp only [z1, z2]; done) | fail) only [z8, z4, z5, z9, z7, z1, z2, *]; exact rfl), .nil, ⟨⟨rfl⟩⟩⟩ ?_
      rintro k e ds hi ⟨i, w, xs, hin, rfl, rfl, rfl, hx1, hnx, hW, hw, ⟨⟨hxs⟩⟩⟩
      by_cases hlt : i < n
      · obtain ⟨x, hxl⟩ : ∃ x, l[i]? = some x := ⟨l[i], List.getElem?_eq_getElem (by omega)⟩
        have hs' := hs.ext (((Ext.refl h).push _).trans hx1)
        rcases hs'.inv with ⟨_, _, h0, _⟩ | ⟨b, o, cap', hv, s, hcap⟩
        · omega
        · cases hv
          obtain ⟨vs, own, t, g1, g2⟩ := slice_elem s hxl
          have hx3 := (hx1.push (.cells [.int .i64 0, .int .i64 0, .int .i64 0, .int .i64 0, .bool false] true 1)).wr (base := h.next) (x := hi.next) (o := .cells (kc x) true 1) hx1.next (by omega)
          have hx4 := hx3.push (.cells [.int .i64 x.worth] true 1)
          have hsu := worth_succ hxl
          have hxl2 : xs.length = i := by rw [hxs]; simp; omega
          have hsu2 : (l.take (i + 1)).map (·.worth) = xs ++ [x.worth] := by rw [hsu, ← hxs]
          have hid : PLift (xs.length = i ∧ (l.take (i + 1)).map (·.worth) = xs ++ [x.worth]) := ⟨hxl2, hsu2⟩
          clear hsu hxs hxl2 hsu2
          cases hw with
          | nil =>
            refine wE_seq ?_; refine wE_region ?_; refine wO_val (a_num (by exact rfl) (by exact rfl) (by exact m_geqT (by omega))) ?_; refine wO_nil ?_; refine kR_k (by simp only [keepE, dstE, geT, paramsE, cond_true, cond_false, Nat.beq]; exact rfl) ?_; refine kS_n ?_; refine wE_seq ?_; refine wE_true (by exact rfl) ?_; refine wE_skip ?_; refine kS_n ?_; refine wE_seq ?_; refine wE_block ?_; refine wE_seq ?_
            refine wE_region ?_
            refine wO_val (a_iaddrS (by exact rfl) (by exact rfl) hlt) ?_
            refine wO_val (a_loadN (by exact rfl) g1 g2 (by exact rfl)) ?_
            refine wO_val a_new ?_; refine wO_val (a_store (by exact rfl) (by exact rfl) (by (simp (disch := first | omega | (simp only [z1, z2]; omega)) only [z3, z4, z5, z6, z7, z1, z2, *]; exact rfl)) (by exact rfl) (by exact rfl)) ?_; refine wO_nil ?_
            refine kR_k (by simp only [keepE, dstE, geT, paramsE, cond_true, cond_false, Nat.beq]; exact rfl) ?_; refine kS_n ?_; refine wE_draw ?_; refine wD_quiet rfl rfl rfl (by exact rfl) (by exact rfl) (by exact rfl) (a_mov (by exact rfl)) ?_; refine wD_quiet rfl rfl rfl (by exact rfl) (by exact rfl) (by exact rfl) (a_mov (by exact rfl)) ?_
            refine wD_quiet rfl rfl rfl (by exact rfl) (by exact rfl) (by exact rfl) (a_nilchk (by exact rfl)) ?_; refine wD_quiet rfl rfl rfl (by exact rfl) (by exact rfl) (by exact rfl) (a_faddr (by exact rfl)) ?_
            refine wD_quiet rfl rfl rfl (by exact rfl) (by exact rfl) (by exact rfl) (a_load (by exact rfl) (by (simp (disch := first | omega | (simp only [z1, z2]; omega)) only [z3, z4, z5, z6, z7, z1, z2, *]; exact rfl)) (by exact rfl)) ?_
            refine wD_quiet rfl rfl rfl (by exact rfl) (by exact rfl) (by exact rfl) (a_faddr (by exact rfl)) ?_
            refine wD_quiet rfl rfl rfl (by exact rfl) (by exact rfl) (by exact rfl) (a_load (by exact rfl) (by (simp (disch := first | omega | (simp only [z1, z2]; omega)) only [z3, z4, z5, z6, z7, z1, z2, *]; exact rfl)) (by exact rfl)) ?_
            refine wD_new rfl rfl rfl (by exact rfl) (by exact rfl) (by exact rfl) (a_bslice (by exact rfl) (by exact rfl)) (by refine rs_cons (rq_quiet rfl (a_load (by exact rfl) (by (simp (disch := first | omega | (simp only [z1, z2]; omega)) only [z3, z4, z5, z6, z7, z1, z2, *]; exact rfl)) (by exact rfl)) (by exact sv_int _ _)) ?_; refine rs_cons (rq_quiet rfl (a_faddr (by exact rfl)) (by exact sv_ptr _)) ?_; refine rs_cons (rq_quiet rfl (a_load (by exact rfl) (by (simp (disch := first | omega | (simp only [z1, z2]; omega)) only [z3, z4, z5, z6, z7, z1, z2, *]; exact rfl)) (by exact rfl)) (by exact sv_slice _ _ _)) ?_; refine rs_cons (rq_quiet rfl (a_faddr (by exact rfl)) (by exact sv_ptr _)) ?_; refine rs_cons (rq_quiet rfl (a_nilchk (by exact rfl)) (by exact sv_ptr _)) ?_; refine rs_cons (rq_quiet rfl (a_mov (by exact rfl)) (by exact sv_ptr _)) ?_; refine rs_cons (rq_quiet rfl (a_mov (by exact rfl)) (by exact sv_ptr _)) ?_; exact rs_nil) ?_
            refine wD_app_nil (n := 1) rfl rfl rfl (by exact rfl) (by exact rfl) (by exact rfl) (src_log (src_slice (cs := [.int .i64 x.worth]) (by (simp (disch := first | omega | (simp only [z1, z2]; omega) | (simp only [z1, z2]; done) | fail) only [z8, z4, z5, z9, z7, z1, z2, *]; exact rfl)) rfl rfl)) (by omega) (by omega) (by apply ra_dropC rfl; apply ra_dropC rfl; apply ra_dropC rfl; apply ra_dropC rfl; apply ra_dropC rfl; apply ra_dropC rfl; apply ra_dropC rfl; apply ra_keepC rfl (rq_quiet rfl (a_mov (by exact rfl)) (by exact sv_ptr _)) rfl; exact ra_nil) ?_
            refine wD_quiet rfl rfl rfl (by exact rfl) (by exact rfl) (by exact rfl) (a_nilchk (by exact rfl)) ?_; refine wD_quiet rfl rfl rfl (by exact rfl) (by exact rfl) (by exact rfl) (a_faddr (by exact rfl)) ?_
            refine wD_store rfl rfl rfl (by exact rfl) (by exact rfl) (by exact rfl) (by (simp (disch := first | omega | (simp only [z1, z2]; omega)) only [z3, z4, z5, z6, z7, z1, z2, *]; exact rfl)) (by exact rfl) (by exact rfl) (by (simp only [z1, z2]; omega)) (by omega) (by apply ra_dropC rfl; apply ra_dropC rfl; apply ra_dropC rfl; exact ra_nil) ?_
            refine wD_nil ?_; refine kR_k (by simp only [keepE, dstE, geT, paramsE, cond_true, cond_false, Nat.beq]; exact rfl) ?_; refine kB_n ?_; refine kS_n ?_; refine wE_region ?_; refine wO_val (a_num (by exact rfl) (by exact rfl) (by exact m_inc (by omega))) ?_; refine wO_val (a_mov (by exact rfl)) ?_; refine wO_nil ?_
            refine kR_k (by simp only [keepE, dstE, geT, paramsE, cond_true, cond_false, Nat.beq]; exact rfl) ?_; refine kS_n ?_
            obtain ⟨hxl2, hsu2⟩ := hid
            obtain rfl : i = 0 := hxl2.symm
            refine ⟨n - 1, by omega, 1, .slice (some ⟨hi.next + 2, 0, none⟩) 1 UNK, [x.worth], by omega, rfl, rfl, rfl, ?_, ?_, ?_, ?_, ?_⟩
            · exact (hx4.push (.cells [.int .i64 x.worth] true 1)).wr (Nat.le_refl _) (Nat.le_succ _)
            · (simp only [z1, z2]; omega)
            · (simp (disch := first | omega | (simp only [z1, z2]; omega)) only [z3, z4, z5, z6, z7, z1, z2, *]; exact rfl)
            · exact .full (xs := [x.worth]) (by omega) (by (simp only [z1, z2]; omega)) (by (simp (disch := first | omega | (simp only [z1, z2]; omega) | (simp only [z1, z2]; done) | fail) only [z8, z4, z5, z9, z7, z1, z2, *]; exact rfl)) (by simp)
            · exact ⟨⟨hsu2.symm⟩⟩
          | @full q _ h1 h2 h3 h5 =>
            have h4 : (ints xs).length = xs.length := by simp [ints]
            have h7 : xs.length < 1000000 := by have := hid.down.1; omega
            have h6 : xs.length ≠ 0 := by cases xs with | nil => exact absurd rfl h5 | cons _ _ => simp
            have hwr : lcat (ints xs) [.int .i64 x.worth] = ints (xs ++ [x.worth]) := by rw [lcat_eq]; simp [ints]
            refine wE_seq ?_; refine wE_region ?_; refine wO_val (a_num (by exact rfl) (by exact rfl) (by exact m_geqT (by omega))) ?_; refine wO_nil ?_; refine kR_k (by simp only [keepE, dstE, geT, paramsE, cond_true, cond_false, Nat.beq]; exact rfl) ?_; refine kS_n ?_; refine wE_seq ?_; refine wE_true (by exact rfl) ?_; refine wE_skip ?_; refine kS_n ?_; refine wE_seq ?_; refine wE_block ?_; refine wE_seq ?_
            refine wE_region ?_
            refine wO_val (a_iaddrS (by exact rfl) (by exact rfl) hlt) ?_
            refine wO_val (a_loadN (by exact rfl) g1 g2 (by exact rfl)) ?_
            refine wO_val a_new ?_; refine wO_val (a_store (by exact rfl) (by exact rfl) (by (simp (disch := first | omega | (simp only [z1, z2]; omega)) only [z3, z4, z5, z6, z7, z1, z2, *]; exact rfl)) (by exact rfl) (by exact rfl)) ?_; refine wO_nil ?_
            refine kR_k (by simp only [keepE, dstE, geT, paramsE, cond_true, cond_false, Nat.beq]; exact rfl) ?_; refine kS_n ?_; refine wE_draw ?_; refine wD_quiet rfl rfl rfl (by exact rfl) (by exact rfl) (by exact rfl) (a_mov (by exact rfl)) ?_; refine wD_quiet rfl rfl rfl (by exact rfl) (by exact rfl) (by exact rfl) (a_mov (by exact rfl)) ?_
            refine wD_quiet rfl rfl rfl (by exact rfl) (by exact rfl) (by exact rfl) (a_nilchk (by exact rfl)) ?_; refine wD_quiet rfl rfl rfl (by exact rfl) (by exact rfl) (by exact rfl) (a_faddr (by exact rfl)) ?_
            refine wD_quiet rfl rfl rfl (by exact rfl) (by exact rfl) (by exact rfl) (a_load (by exact rfl) (by (simp (disch := first | omega | (simp only [z1, z2]; omega)) only [z3, z4, z5, z6, z7, z1, z2, *]; exact rfl)) (by exact rfl)) ?_
            refine wD_quiet rfl rfl rfl (by exact rfl) (by exact rfl) (by exact rfl) (a_faddr (by exact rfl)) ?_
            refine wD_quiet rfl rfl rfl (by exact rfl) (by exact rfl) (by exact rfl) (a_load (by exact rfl) (by (simp (disch := first | omega | (simp only [z1, z2]; omega)) only [z3, z4, z5, z6, z7, z1, z2, *]; exact rfl)) (by exact rfl)) ?_
            refine wD_new rfl rfl rfl (by exact rfl) (by exact rfl) (by exact rfl) (a_bslice (by exact rfl) (by exact rfl)) (by refine rs_cons (rq_quiet rfl (a_load (by exact rfl) (by (simp (disch := first | omega | (simp only [z1, z2]; omega)) only [z3, z4, z5, z6, z7, z1, z2, *]; exact rfl)) (by exact rfl)) (by exact sv_int _ _)) ?_; refine rs_cons (rq_quiet rfl (a_faddr (by exact rfl)) (by exact sv_ptr _)) ?_; refine rs_cons (rq_quiet rfl (a_load (by exact rfl) (by (simp (disch := first | omega | (simp only [z1, z2]; omega)) only [z3, z4, z5, z6, z7, z1, z2, *]; exact rfl)) (by exact rfl)) (by exact sv_slice _ _ _)) ?_; refine rs_cons (rq_quiet rfl (a_faddr (by exact rfl)) (by exact sv_ptr _)) ?_; refine rs_cons (rq_quiet rfl (a_nilchk (by exact rfl)) (by exact sv_ptr _)) ?_; refine rs_cons (rq_quiet rfl (a_mov (by exact rfl)) (by exact sv_ptr _)) ?_; refine rs_cons (rq_quiet rfl (a_mov (by exact rfl)) (by exact sv_ptr _)) ?_; exact rs_nil) ?_
            refine wD_app_open (n := 1) (vs := ints xs) (ws := ints (xs ++ [x.worth])) rfl rfl rfl (by exact rfl) (by exact rfl) (by exact rfl) (src_log (src_slice (cs := [.int .i64 x.worth]) (by (simp (disch := first | omega | (simp only [z1, z2]; omega) | (simp only [z1, z2]; done) | fail) only [z8, z4, z5, z9, z7, z1, z2, *]; exact rfl)) rfl rfl)) (by omega) (by (simp (disch := first | omega | (simp only [z1, z2]; omega)) only [z3, z4, z5, z6, z7, z1, z2, *]; done)) (by omega) (by omega) rfl (by omega) hwr (by (simp only [z1, z2]; omega)) (by omega) (by apply ra_dropC rfl; apply ra_dropC rfl; apply ra_dropC rfl; apply ra_dropC rfl; apply ra_dropC rfl; apply ra_dropC rfl; apply ra_dropC rfl; apply ra_keepC rfl (rq_quiet rfl (a_mov (by exact rfl)) (by exact sv_ptr _)) rfl; exact ra_nil) ?_
            refine wD_quiet rfl rfl rfl (by exact rfl) (by exact rfl) (by exact rfl) (a_nilchk (by exact rfl)) ?_; refine wD_quiet rfl rfl rfl (by exact rfl) (by exact rfl) (by exact rfl) (a_faddr (by exact rfl)) ?_
            refine wD_store rfl rfl rfl (by exact rfl) (by exact rfl) (by exact rfl) (by (simp (disch := first | omega | (simp only [z1, z2]; omega)) only [z3, z4, z5, z6, z7, z1, z2, *]; exact rfl)) (by exact rfl) (by exact rfl) (by (simp only [z1, z2]; omega)) (by omega) (by apply ra_dropC rfl; apply ra_dropC rfl; apply ra_dropC rfl; exact ra_nil) ?_
            refine wD_nil ?_; refine kR_k (by simp only [keepE, dstE, geT, paramsE, cond_true, cond_false, Nat.beq]; exact rfl) ?_; refine kB_n ?_; refine kS_n ?_; refine wE_region ?_; refine wO_val (a_num (by exact rfl) (by exact rfl) (by exact m_inc (by omega))) ?_; refine wO_val (a_mov (by exact rfl)) ?_; refine wO_nil ?_
            refine kR_k (by simp only [keepE, dstE, geT, paramsE, cond_true, cond_false, Nat.beq]; exact rfl) ?_; refine kS_n ?_
            have hxi := hid.down.1
            refine ⟨n - (i + 1), by omega, i + 1, .slice (some ⟨hi.next + 2, 0, none⟩) (xs.length + 1) UNK, xs ++ [x.worth], by omega, rfl, rfl, rfl, ?_, ?_, ?_, ?_, ?_⟩
            · exact ((hx4.wr (x := q) (base := h.next) (o := .dead) (show h.next + 1 ≤ q by omega) (by omega)).push (.cells (ints (xs ++ [x.worth])) true 1)).wr (Nat.le_refl _) (Nat.le_succ _)
            · (simp only [z1, z2]; omega)
            · (simp (disch := first | omega | (simp only [z1, z2]; omega)) only [z3, z4, z5, z6, z7, z1, z2, *]; exact rfl)
            · have := WslB.full (lo := h.next + 2) (q := hi.next + 2) (xs := xs ++ [x.worth]) (h := (((((hi.push (.cells [.int .i64 0, .int .i64 0, .int .i64 0, .int .i64 0, .bool false] true 1)).wr h.next hi.next (.cells (kc x) true 1)).push (.cells [.int .i64 x.worth] true 1)).wr h.next q .dead).push (.cells (ints (xs ++ [x.worth])) true 1)).wr h.next (h.next + 1) (.cells [.slice (some ⟨b, o, none⟩) n c, .int .i64 kerf, .slice (some ⟨hi.next + 2, 0, none⟩) (xs.length + 1) UNK] true 1)) (by omega) (by (simp only [z1, z2]; omega)) (by (simp (disch := first | omega | (simp only [z1, z2]; omega) | (simp only [z1, z2]; done) | fail) only [z8, z4, z5, z9, z7, z1, z2, *]; done)) (by simp)
              rw [List.length_append] at this
              exact this
            · exact ⟨⟨hid.down.2.symm⟩⟩
      · obtain rfl : i = n := by omega
        refine wE_seq ?_; refine wE_region ?_; refine wO_val (a_num (by exact rfl) (by exact rfl) (by exact m_geqF (by omega))) ?_; refine wO_nil ?_; refine kR_k (by simp only [keepE, dstE, geT, paramsE, cond_true, cond_false, Nat.beq]; exact rfl) ?_; refine kS_n ?_; refine wE_seq ?_; refine wE_false (by exact rfl) ?_; refine wE_exit ?_; refine kS_e ?_; refine kS_e ?_; refine kB_e ?_; refine kS_n ?_
        refine wE_seq ?_; refine wE_region ?_; refine wO_val (a_mov (by exact rfl)) ?_; refine wO_val (a_mov (by exact rfl)) ?_; refine wO_val (a_mov (by exact rfl)) ?_; refine wO_nil ?_; refine kR_k (by simp only [keepE, dstE, geT, paramsE, cond_true, cond_false, Nat.beq]; exact rfl) ?_; refine kS_n ?_; refine wE_ret ?_
        refine endA_ret (vs := [.pointer (some ⟨h.next + 1, 0, none⟩), .int .i64 0]) (hx1.log.trans hr.log) rfl ⟨_, rfl, fun _ => ?_⟩
        rw [List.take_of_length_le (by omega)] at hxs
        have hxn : xs.length = i := by rw [hxs]; simp; omega
        rw [← hxs]
        cases hw with
        | nil =>
          obtain rfl : i = 0 := by simpa using hxn.symm
          exact ⟨_, none, 0, rfl, hW, .nil⟩
        | @full q _ h1 h2 h3 h5 =>
          refine ⟨_, some ⟨q, 0, none⟩, UNK, rfl, by rw [hxn] at hW; exact hW, .mem ⟨h2, ⟨_, _, _, h3, ?_⟩, by simp [ints]; omega⟩ (by unfold UNK; omega)⟩
          rw [ltake_eq, ldrop_eq, List.drop_zero, List.take_of_length_le (by simp [ints]; omega)]
  · rw [if_neg hc]
    refine wO_val (a_mov (by exact rfl)) ?_; refine wO_nil ?_; refine kR_k (by simp only [keepE, dstE, geT, paramsE, cond_true, cond_false, Nat.beq]; exact rfl) ?_; refine kS_n ?_; refine wE_seq ?_; refine wE_region ?_; refine wO_val (a_mov (by exact rfl)) ?_; refine wO_val (a_num (by exact rfl) (by exact rfl) (by exact m_neqT (by omega))) ?_; refine wO_nil ?_
    refine kR_k (by simp only [keepE, dstE, geT, paramsE, cond_true, cond_false, Nat.beq]; exact rfl) ?_; refine kS_n ?_; refine wE_true (by exact rfl) ?_; refine wE_seq ?_; refine wE_region ?_; refine wO_val (a_mov (by exact rfl)) ?_; refine wO_val (a_mov (by exact rfl)) ?_; refine wO_val (a_mov (by exact rfl)) ?_; refine wO_nil ?_
    refine kR_k (by simp only [keepE, dstE, geT, paramsE, cond_true, cond_false, Nat.beq]; exact rfl) ?_; refine kS_n ?_; refine wE_ret ?_; refine kS_r ?_
    exact endA_ret (vs := [.pointer none, .int .i64 (chk kerf l)]) hr.log rfl ⟨_, rfl, fun e => (hc e).elim⟩
end Go.A.Pk
end
section
set_option maxRecDepth 100000
namespace Go.A.Pk
variable {T : Nat → Option AFunc}
structure FnsW (T : Nat → Option AFunc) : Prop extends FnsE T, FnsV T where
  f76 : T 76 = some f76
  f32 : T 32 = some f32
def OnB (w ht : Int) : Prop := (1 ≤ w ∧ w ≤ 16) ∧ (1 ≤ ht ∧ ht ≤ 16)
instance (w ht : Int) : Decidable (OnB w ht) := by unfold OnB; infer_instance
theorem board76 (F : FnsW T) {h : Heap} (hr : Rdy h) (w ht : Int) : Pu T 76 [.int .i64 w, .int .i64 ht] h (.bool (decide (OnB w ht))) := by
  refine .of F.toFnsE.toFnsA.p F.f76 hr rfl ?_
  by_cases c1 : 1 ≤ w ∧ w ≤ 16
  · by_cases c2 : 1 ≤ ht ∧ ht ≤ 16
    · rw [decide_eq_true (show OnB w ht from ⟨c1, c2⟩)]
      refine wE_seq ?_; refine wE_region ?_; refine wO_val (a_mov (by exact rfl)) ?_; refine wO_nil ?_; refine kR_k (by simp only [keepE, dstE, geT, paramsE, cond_true, cond_false, Nat.beq]; exact rfl) ?_; refine kS_n ?_; refine wE_seq ?_; refine wE_region ?_; refine wO_val (a_mov (by exact rfl)) ?_
      refine wO_call (a_call (by exact rfl) (by exact rfl) (by exact rfl) (by exact rfl)) ?_
      refine FW.pu (in77T F.toFnsE.toFnsA.p F.toFnsE.toFnsA.f77 (.of hr.wf) c1) ?_
      refine wO_val (a_mov (by exact rfl)) ?_; refine wO_on (by exact rfl) ?_; refine wO_val (a_mov (by exact rfl)) ?_; refine wO_on (by exact rfl) ?_
      refine wO_call (a_call (by exact rfl) (by exact rfl) (by exact rfl) (by exact rfl)) ?_
      refine FW.pu (in77T F.toFnsE.toFnsA.p F.toFnsE.toFnsA.f77 (.of hr.wf) c2) ?_
      refine wO_val (a_pickT (by exact rfl) (by exact rfl)) ?_; refine wO_val (a_mov (by exact rfl)) ?_; refine wO_nil ?_; refine kR_k (by simp only [keepE, dstE, geT, paramsE, cond_true, cond_false, Nat.beq]; exact rfl) ?_; refine kS_n ?_; refine wE_ret ?_
      exact endP_ret hr.log rfl rfl
    · rw [decide_eq_false (show ¬ OnB w ht from fun q => c2 q.2)]
      refine wE_seq ?_; refine wE_region ?_; refine wO_val (a_mov (by exact rfl)) ?_; refine wO_nil ?_; refine kR_k (by simp only [keepE, dstE, geT, paramsE, cond_true, cond_false, Nat.beq]; exact rfl) ?_; refine kS_n ?_; refine wE_seq ?_; refine wE_region ?_; refine wO_val (a_mov (by exact rfl)) ?_
      refine wO_call (a_call (by exact rfl) (by exact rfl) (by exact rfl) (by exact rfl)) ?_
      refine FW.pu (in77T F.toFnsE.toFnsA.p F.toFnsE.toFnsA.f77 (.of hr.wf) c1) ?_
      refine wO_val (a_mov (by exact rfl)) ?_; refine wO_on (by exact rfl) ?_; refine wO_val (a_mov (by exact rfl)) ?_; refine wO_on (by exact rfl) ?_
      refine wO_call (a_call (by exact rfl) (by exact rfl) (by exact rfl) (by exact rfl)) ?_
      refine FW.pu (in77F F.toFnsE.toFnsA.p F.toFnsE.toFnsA.f77 (.of hr.wf) c2) ?_
      refine wO_val (a_pickT (by exact rfl) (by exact rfl)) ?_; refine wO_val (a_mov (by exact rfl)) ?_; refine wO_nil ?_; refine kR_k (by simp only [keepE, dstE, geT, paramsE, cond_true, cond_false, Nat.beq]; exact rfl) ?_; refine kS_n ?_; refine wE_ret ?_
      exact endP_ret hr.log rfl rfl
  · rw [decide_eq_false (show ¬ OnB w ht from fun q => c1 q.1)]
    refine wE_seq ?_; refine wE_region ?_; refine wO_val (a_mov (by exact rfl)) ?_; refine wO_nil ?_; refine kR_k (by simp only [keepE, dstE, geT, paramsE, cond_true, cond_false, Nat.beq]; exact rfl) ?_; refine kS_n ?_; refine wE_seq ?_; refine wE_region ?_; refine wO_val (a_mov (by exact rfl)) ?_
    refine wO_call (a_call (by exact rfl) (by exact rfl) (by exact rfl) (by exact rfl)) ?_
    refine FW.pu (in77F F.toFnsE.toFnsA.p F.toFnsE.toFnsA.f77 (.of hr.wf) c1) ?_
    refine wO_val (a_mov (by exact rfl)) ?_; refine wO_off (by exact rfl) (by exact rfl) ?_; refine wO_off (by exact rfl) (by exact rfl) ?_; refine wO_val (a_pickF (by exact rfl) (by exact rfl)) ?_; refine wO_val (a_mov (by exact rfl)) ?_; refine wO_nil ?_; refine kR_k (by simp only [keepE, dstE, geT, paramsE, cond_true, cond_false, Nat.beq]; exact rfl) ?_; refine kS_n ?_; refine wE_ret ?_
    exact endP_ret hr.log rfl rfl
theorem StartQ.logs {a : Option Addr} {n c : Nat} {kerf : Int} {l : List Kd} {er : Int} (v : Value) (h' : Heap) (m : List Nat) (q : StartQ a n c kerf l er v h') : StartQ a n c kerf l er v { h' with log := m } := by
  obtain ⟨p, h1, h2⟩ := q
  refine ⟨p, h1, fun e => ?_⟩
  obtain ⟨bb, wa, wc, q1, q2, q3⟩ := h2 e
  exact ⟨bb, wa, wc, q1, q2, q3.log _⟩
def bestV (kerf : Int) (l : List Kd) (w ht : Int) : Int := look (tabL kerf (l.map (·.worth)) l (boardsL w.toNat ht.toNat)) (w, ht)
def bestR (kerf : Int) (l : List Kd) (w ht : Int) : Value := .tuple #[.int .i64 (if asked kerf l (OnB w ht) = 0 then bestV kerf l w ht else 0), .int .i64 (asked kerf l (OnB w ht))]
set_option maxHeartbeats 4000000 in
theorem best32 (F : FnsW T) {h : Heap} (hr : Rdy h) {a : Option Addr} {n c : Nat} {l : List Kd} (hs : SliceOf h 5 (.slice a n c) n (kcs l)) (kerf : Int) (hn : n < 1000000) (w ht : Int) : Pu T 32 [.agg #[.slice a n c, .int .i64 kerf], .int .i64 w, .int .i64 ht] h (bestR kerf l w ht) := by
  refine .of F.toFnsE.toFnsA.p F.f32 hr rfl ?_
  have hx : Ext h (h.push (.cells [.slice a n c, .int .i64 kerf] true 1)) := (Ext.refl h).push _
  obtain rfl : n = l.length := by have := hs.len; rw [kcs_length] at this; omega
  refine wE_seq ?_; refine wE_region ?_; refine wO_val (a_box (by exact rfl) (by exact rfl)) ?_; refine wO_val (a_mov (by exact rfl)) ?_; refine wO_val (a_mov (by exact rfl)) ?_; refine wO_nil ?_; refine kR_k (by simp only [keepE, dstE, geT, paramsE, cond_true, cond_false, Nat.beq]; exact rfl) ?_; refine kS_n ?_; refine wE_seq ?_; refine wE_draw ?_
  refine wD_quiet rfl rfl rfl (by exact rfl) (by exact rfl) (by exact rfl) (a_loadN (by exact rfl) (by (simp (disch := first | omega | (simp only [z1, z2]; omega)) only [z3, z4, z5, z6, z7, z1, z2, *]; exact rfl)) (by exact rfl) (by exact rfl)) ?_
  refine wD_quiet rfl rfl rfl (by exact rfl) (by exact rfl) (by exact rfl) (a_mov (by exact rfl)) ?_; refine wD_quiet rfl rfl rfl (by exact rfl) (by exact rfl) (by exact rfl) (a_mov (by exact rfl)) ?_
  refine wD_call rfl rfl rfl (by exact rfl) (by exact rfl) (a_call (by exact rfl) (by exact rfl) (by exact rfl) (by exact rfl)) ?_
  refine FW.puD (board76 F (.of (hx.wf hr.wf)) w ht) (by apply ra_dropC rfl; apply ra_dropC rfl; apply ra_keepC rfl (rq_quiet rfl (a_loadN (by exact rfl) (by (simp (disch := first | omega | (simp only [z1, z2]; omega)) only [z3, z4, z5, z6, z7, z1, z2, *]; exact rfl)) (by exact rfl) (by exact rfl)) (by exact sv_agg (by refine sl_cons (s1_slice _ _ _) ?_; refine sl_cons (s1_int _ _) ?_; exact sl_nil))) rfl; exact ra_nil) ?_
  refine wD_new rfl rfl rfl (by exact rfl) (by exact rfl) (by exact rfl) (a_bslice (by exact rfl) (by exact rfl)) (by refine rs_cons (rq_quiet rfl (a_loadN (by exact rfl) (by (simp (disch := first | omega | (simp only [z1, z2]; omega)) only [z3, z4, z5, z6, z7, z1, z2, *]; exact rfl)) (by exact rfl) (by exact rfl)) (by exact sv_agg (by refine sl_cons (s1_slice _ _ _) ?_; refine sl_cons (s1_int _ _) ?_; exact sl_nil))) ?_; exact rs_nil) ?_
  refine wD_call rfl rfl rfl (by exact rfl) (by exact rfl) (a_call (by exact rfl) (by exact rfl) (by exact rfl) (by exact rfl)) ?_
  have hx2 := hx.push (.cells [.bool (decide (OnB w ht))] true 1)
  refine FW.alD (startedB75 F.toFnsE (.of (hx2.wf hr.wf)) ((hs.ext hx2).log []) kerf hn (bl := [decide (OnB w ht)]) (m := 1) (.mem ⟨Nat.lt_succ_self _, ⟨_, _, _, z3 _ _, rfl⟩, rfl⟩ (Nat.le_refl _)) (by omega)) (fun v h' m q => StartQ.logs v h' m q) ?_
  rintro _ h1 hx3 ⟨p, rfl, hst⟩
  rw [startE_one] at hst
  rw [startE_one]
  refine ⟨_, by apply ra_dropC rfl; apply ra_dropC rfl; exact ra_nil, ?_⟩
  have w1 : WF h1 := hx3.wf (hx2.wf hr.wf)
  have hx13 : Ext h h1 := hx2.trans hx3
  by_cases ha : asked kerf l (OnB w ht) = 0
  · obtain ⟨bb, wa, wc, rfl, gb, hws⟩ := hst ha
    have hP := asked_zero ha
    obtain ⟨q1, q2, q3, q4⟩ := chk_iff.1 hP.1
    obtain ⟨⟨e1, e2⟩, e3, e4⟩ := hP.2
    obtain ⟨wn, rfl⟩ := Int.eq_ofNat_of_zero_le (show 0 ≤ w by omega)
    obtain ⟨hn', rfl⟩ := Int.eq_ofNat_of_zero_le (show 0 ≤ ht by omega)
    unfold bestR
    rw [if_pos ha, ha]
    refine wD_quiet rfl rfl rfl (by exact rfl) (by exact rfl) (by exact rfl) (a_mov (by exact rfl)) ?_; refine wD_quiet rfl rfl rfl (by exact rfl) (by exact rfl) (by exact rfl) (a_extract (by exact rfl) (by exact rfl)) ?_; refine wD_quiet rfl rfl rfl (by exact rfl) (by exact rfl) (by exact rfl) (a_extract (by exact rfl) (by exact rfl)) ?_
    refine wD_quiet rfl rfl rfl (by exact rfl) (by exact rfl) (by exact rfl) (a_mov (by exact rfl)) ?_; refine wD_quiet rfl rfl rfl (by exact rfl) (by exact rfl) (by exact rfl) (a_mov (by exact rfl)) ?_; refine wD_nil ?_; refine kR_k (by simp only [keepE, dstE, geT, paramsE, cond_true, cond_false, Nat.beq]; exact rfl) ?_; refine kS_n ?_; refine wE_seq ?_; refine wE_seq ?_; refine wE_region ?_
    refine wO_val (a_mov (by exact rfl)) ?_; refine wO_val (a_num (by exact rfl) (by exact rfl) (by exact m_neqF (by omega))) ?_; refine wO_nil ?_; refine kR_k (by simp only [keepE, dstE, geT, paramsE, cond_true, cond_false, Nat.beq]; exact rfl) ?_; refine kS_n ?_; refine wE_false (by exact rfl) ?_; refine wE_skip ?_; refine kS_n ?_; refine wE_seq ?_; refine wE_region ?_
    refine wO_val (a_mov (by exact rfl)) ?_; refine wO_val (a_mov (by exact rfl)) ?_; refine wO_val (a_mov (by exact rfl)) ?_
    refine wO_call (a_call (by exact rfl) (by exact rfl) (by exact rfl) (by exact rfl)) ?_
    refine FW.al (best83 F.toFnsV (.of w1) (w := wn) (ht := hn') (W := 1000000) (ws := l.map (·.worth)) (by omega) (by omega) (by omega) ⟨by omega, by omega⟩ (by omega) (fun x hx => ?_) gb ((hs.ext hx13).log []) (hws.log [])) (fun _ _ _ q => q) ?_
    · obtain ⟨k, hk, rfl⟩ := List.mem_map.1 hx
      have := (q3 k hk).2.2.2
      exact this
    rintro _ h2 hx4 ⟨r, rfl, gr⟩
    refine wO_val (a_mov (by exact rfl)) ?_; refine wO_val (a_mov (by exact rfl)) ?_; refine wO_val (a_build (by exact rfl)) ?_
    refine wO_val (a_lookup (x := ((wn : Int), (hn' : Int))) (by exact rfl) (by exact rfl) gr) ?_
    refine wO_val (a_mov (by exact rfl)) ?_; refine wO_val (a_mov (by exact rfl)) ?_; refine wO_nil ?_; refine kR_k (by simp only [keepE, dstE, geT, paramsE, cond_true, cond_false, Nat.beq]; exact rfl) ?_; refine kS_n ?_; refine wE_ret ?_
    exact endP_ret ((hx13.trans hx4).log.trans hr.log) rfl rfl
  · unfold bestR
    rw [if_neg ha]
    refine wD_quiet rfl rfl rfl (by exact rfl) (by exact rfl) (by exact rfl) (a_mov (by exact rfl)) ?_; refine wD_quiet rfl rfl rfl (by exact rfl) (by exact rfl) (by exact rfl) (a_extract (by exact rfl) (by exact rfl)) ?_; refine wD_quiet rfl rfl rfl (by exact rfl) (by exact rfl) (by exact rfl) (a_extract (by exact rfl) (by exact rfl)) ?_
    refine wD_quiet rfl rfl rfl (by exact rfl) (by exact rfl) (by exact rfl) (a_mov (by exact rfl)) ?_; refine wD_quiet rfl rfl rfl (by exact rfl) (by exact rfl) (by exact rfl) (a_mov (by exact rfl)) ?_; refine wD_nil ?_; refine kR_k (by simp only [keepE, dstE, geT, paramsE, cond_true, cond_false, Nat.beq]; exact rfl) ?_; refine kS_n ?_; refine wE_seq ?_; refine wE_seq ?_; refine wE_region ?_
    refine wO_val (a_mov (by exact rfl)) ?_; refine wO_val (a_num (by exact rfl) (by exact rfl) (by exact m_neqT (by omega))) ?_; refine wO_nil ?_; refine kR_k (by simp only [keepE, dstE, geT, paramsE, cond_true, cond_false, Nat.beq]; exact rfl) ?_; refine kS_n ?_; refine wE_true (by exact rfl) ?_; refine wE_seq ?_; refine wE_region ?_; refine wO_val (a_mov (by exact rfl)) ?_
    refine wO_val (a_mov (by exact rfl)) ?_; refine wO_val (a_mov (by exact rfl)) ?_; refine wO_nil ?_; refine kR_k (by simp only [keepE, dstE, geT, paramsE, cond_true, cond_false, Nat.beq]; exact rfl) ?_; refine kS_n ?_; refine wE_ret ?_; refine kS_r ?_
    exact endP_ret (hx13.log.trans hr.log) rfl rfl
end Go.A.Pk
end
section
namespace Go.A.Pk
def foldM {α : Type} (f : α → Int) (xs : List α) (m : Int) : Int := xs.foldl (fun m x => mx m (f x)) m
theorem foldM_ge {α : Type} {f : α → Int} : ∀ {xs : List α} {m : Int}, m ≤ foldM f xs m ∧ ∀ x ∈ xs, f x ≤ foldM f xs m
  | [], m => ⟨Int.le_refl _, fun x hx => by cases hx⟩
  | y :: xs, m => by
    have h := foldM_ge (f := f) (xs := xs) (m := mx m (f y))
    have hm := mx_ge (a := m) (b := f y)
    refine ⟨Int.le_trans hm.1 h.1, fun x hx => ?_⟩
    rcases List.mem_cons.1 hx with rfl | hx
    · exact Int.le_trans hm.2 h.1
    · exact h.2 x hx
theorem foldM_le {α : Type} {f : α → Int} {B : Int} : ∀ {xs : List α} {m : Int}, m ≤ B → (∀ x ∈ xs, f x ≤ B) → foldM f xs m ≤ B
  | [], m, h, _ => h
  | y :: xs, m, h, hx => foldM_le (xs := xs) (m := mx m (f y)) (mx_le h (hx y (List.mem_cons_self ..))) fun x hx' => hx x (List.mem_cons_of_mem _ hx')
theorem foldM_congr {α : Type} {f g : α → Int} : ∀ {xs : List α} {m : Int}, (∀ x ∈ xs, f x = g x) → foldM f xs m = foldM g xs m
  | [], _, _ => rfl
  | y :: xs, m, h => by
    show foldM f xs (mx m (f y)) = foldM g xs (mx m (g y))
    rw [h y (List.mem_cons_self ..), foldM_congr fun x hx => h x (List.mem_cons_of_mem _ hx)]
def VF (kerf : Int) (ws : List Int) (kl : List Kd) : Nat → Int × Int → Int
  | 0, _ => 0
  | n + 1, p => if 1 ≤ p.1 ∧ 1 ≤ p.2 then foldM (fun x => VF kerf ws kl n (oneB x p.1.toNat p.2.toNat) + VF kerf ws kl n (twoB kerf x p.1.toNat p.2.toNat)) (cutsL p.1.toNat p.2.toNat) (leafM ws (leavesL p.1.toNat p.2.toNat kl 0) 0) else 0
def sz (p : Int × Int) : Nat := p.1.toNat + p.2.toNat
theorem cut_lt {kerf : Int} (hk : 0 ≤ kerf) {a b : Nat} {x : Nat × Nat} (hx : x ∈ cutsL a b) : sz (oneB x a b) < a + b ∧ sz (twoB kerf x a b) < a + b := by
  unfold sz
  rcases cuts_of hx with ⟨e3, hl, hu⟩ | ⟨e4, hl, hu⟩
  · simp only [oneB, twoB, e3, if_true]; omega
  · have n3 : ¬ x.1 = 3 := by omega
    simp only [oneB, twoB, if_neg n3]; omega
theorem VF_succ {kerf : Int} (hk : 0 ≤ kerf) {ws : List Int} {kl : List Kd} : ∀ {n : Nat} {p : Int × Int}, sz p ≤ n → VF kerf ws kl (n + 1) p = VF kerf ws kl n p
  | 0, p, h => by
    unfold sz at h
    simp only [VF]
    rw [if_neg (by omega)]
  | n + 1, p, h => by
    rw [VF, VF]
    split
    · refine foldM_congr fun x hx => ?_
      have := cut_lt hk hx
      unfold sz at h
      rw [VF_succ hk (by omega), VF_succ hk (by omega)]
    · rfl
theorem VF_ge {kerf : Int} (hk : 0 ≤ kerf) {ws : List Int} {kl : List Kd} {n : Nat} {p : Int × Int} (h : sz p ≤ n) : ∀ {m : Nat}, n ≤ m → VF kerf ws kl m p = VF kerf ws kl n p := by
  intro m hm
  induction m with
  | zero => obtain rfl : n = 0 := by omega
            rfl
  | succ m ih =>
    by_cases e : n = m + 1
    · rw [e]
    · rw [VF_succ hk (by omega), ih (by omega)]
def V (kerf : Int) (ws : List Int) (kl : List Kd) (p : Int × Int) : Int := VF kerf ws kl (sz p) p
theorem V_out {kerf : Int} {ws : List Int} {kl : List Kd} {p : Int × Int} (h : ¬ (1 ≤ p.1 ∧ 1 ≤ p.2)) : V kerf ws kl p = 0 := by
  unfold V
  cases sz p with
  | zero => rfl
  | succ n => rw [VF, if_neg h]
theorem V_eq {kerf : Int} (hk : 0 ≤ kerf) {ws : List Int} {kl : List Kd} {a b : Nat} (ha : 1 ≤ a) (hb : 1 ≤ b) : V kerf ws kl ((a : Int), (b : Int)) = foldM (fun x => V kerf ws kl (oneB x a b) + V kerf ws kl (twoB kerf x a b)) (cutsL a b) (leafM ws (leavesL a b kl 0) 0) := by
  have hs : sz ((a : Int), (b : Int)) = a + b := by simp [sz]
  unfold V
  rw [hs]
  obtain ⟨n, hn⟩ : ∃ n, a + b = n + 1 := ⟨a + b - 1, by omega⟩
  rw [hn, VF, if_pos ⟨by show (1 : Int) ≤ a; omega, by show (1 : Int) ≤ b; omega⟩]
  show foldM (fun x => VF kerf ws kl n (oneB x a b) + VF kerf ws kl n (twoB kerf x a b)) (cutsL a b) _ = _
  refine foldM_congr fun x hx => ?_
  have := cut_lt hk hx
  rw [VF_ge hk (n := sz (oneB x a b)) (Nat.le_refl _) (by omega), VF_ge hk (n := sz (twoB kerf x a b)) (Nat.le_refl _) (by omega)]
theorem look_upd {x : Nat × Nat} {v : Int} : ∀ (t : Tab) (y : Int × Int), look (upd t x v) y = if y = ((x.1 : Int), (x.2 : Int)) then v else look t y
  | [], y => by
    have e1 : isKey y (x, v) = decide (y = ((x.1 : Int), (x.2 : Int))) := by
      unfold isKey
      exact decide_eq_decide.2 ⟨fun q => Prod.ext q.1 q.2, fun q => by rw [q]; exact ⟨rfl, rfl⟩⟩
    simp only [upd, look]
    rw [e1]
    by_cases h : y = ((x.1 : Int), (x.2 : Int))
    · simp [h]
    · simp [h]
  | e :: t, y => by
    simp only [upd]
    by_cases hk : isKey (x.1, x.2) e = true
    · rw [if_pos hk]
      simp only [look]
      simp only [isKey, decide_eq_true_eq] at hk
      have e1 : isKey y (x, v) = decide (y = ((x.1 : Int), (x.2 : Int))) := by
        unfold isKey
        exact decide_eq_decide.2 ⟨fun q => Prod.ext q.1 q.2, fun q => by rw [q]; exact ⟨rfl, rfl⟩⟩
      have e2 : isKey y e = decide (y = ((x.1 : Int), (x.2 : Int))) := by
        unfold isKey
        exact decide_eq_decide.2 ⟨fun q => Prod.ext (q.1.trans hk.1.symm) (q.2.trans hk.2.symm), fun q => by rw [q]; exact hk⟩
      rw [e1, e2]
      by_cases h : y = ((x.1 : Int), (x.2 : Int))
      · simp [h]
      · simp [h]
    · rw [if_neg hk]
      simp only [look]
      rw [look_upd t y]
      by_cases h : y = ((x.1 : Int), (x.2 : Int))
      · have : isKey y e = false := by rw [h]; simpa using hk
        simp [h, this]
        intro q
        rw [h] at this
        rw [this] at q; cases q
      · simp [h]
theorem tab_look {kerf : Int} (hk : 0 ≤ kerf) {ws : List Int} {kl : List Kd} {h : Nat} : ∀ (i j : Nat), j ≤ h → ∀ y : Int × Int, look (tabL kerf ws kl (boardsL i h ++ row (i + 1) j)) y =
    if (1 ≤ y.1 ∧ y.1 ≤ i ∧ 1 ≤ y.2 ∧ y.2 ≤ h) ∨ (y.1 = (i : Int) + 1 ∧ 1 ≤ y.2 ∧ y.2 ≤ j) then V kerf ws kl y else 0
  | 0, 0, _, y => by
    rw [if_neg (by omega)]
    rfl
  | i + 1, 0, hj, y => by
    have e : boardsL (i + 1) h ++ row (i + 1 + 1) 0 = boardsL i h ++ row (i + 1) h := by simp [boardsL, row]
    rw [e, tab_look hk i h (Nat.le_refl _) y]
    have : ((1 ≤ y.1 ∧ y.1 ≤ i ∧ 1 ≤ y.2 ∧ y.2 ≤ h) ∨ (y.1 = (i : Int) + 1 ∧ 1 ≤ y.2 ∧ y.2 ≤ h)) ↔ ((1 ≤ y.1 ∧ y.1 ≤ (i + 1 : Nat) ∧ 1 ≤ y.2 ∧ y.2 ≤ h) ∨ (y.1 = ((i + 1 : Nat) : Int) + 1 ∧ 1 ≤ y.2 ∧ y.2 ≤ (0 : Nat))) := by omega
    by_cases hc : (1 ≤ y.1 ∧ y.1 ≤ i ∧ 1 ≤ y.2 ∧ y.2 ≤ h) ∨ (y.1 = (i : Int) + 1 ∧ 1 ≤ y.2 ∧ y.2 ≤ h)
    · rw [if_pos hc, if_pos (this.1 hc)]
    · rw [if_neg hc, if_neg (fun q => hc (this.2 q))]
  | i, j + 1, hj, y => by
    have ih := tab_look hk (ws := ws) (kl := kl) (h := h) i j (by omega)
    rw [row_succ, ← List.append_assoc, tabL_snoc, look_upd, ih y]
    have hval : val kerf ws kl (tabL kerf ws kl (boardsL i h ++ row (i + 1) j)) (i + 1) (j + 1) = V kerf ws kl (((i + 1 : Nat) : Int), ((j + 1 : Nat) : Int)) := by
      rw [V_eq hk (by omega) (by omega)]
      show foldM _ _ _ = foldM _ _ _
      refine foldM_congr fun x hx => ?_
      rw [ih, ih]
      have key : ∀ z : Int × Int, (1 ≤ z.1 ∧ 1 ≤ z.2 → ((1 ≤ z.1 ∧ z.1 ≤ i ∧ 1 ≤ z.2 ∧ z.2 ≤ h) ∨ (z.1 = (i : Int) + 1 ∧ 1 ≤ z.2 ∧ z.2 ≤ j))) → (if (1 ≤ z.1 ∧ z.1 ≤ i ∧ 1 ≤ z.2 ∧ z.2 ≤ h) ∨ (z.1 = (i : Int) + 1 ∧ 1 ≤ z.2 ∧ z.2 ≤ j) then V kerf ws kl z else 0) = V kerf ws kl z := fun z hz => by
        by_cases hc : 1 ≤ z.1 ∧ 1 ≤ z.2
        · rw [if_pos (hz hc)]
        · rw [if_neg (by omega), V_out hc]
      rcases cuts_of hx with ⟨e3, hl, hu⟩ | ⟨e4, hl, hu⟩
      · rw [key _ (by simp only [oneB, e3, if_true]; omega), key _ (by simp only [twoB, e3, if_true]; omega)]
      · have n3 : ¬ x.1 = 3 := by omega
        rw [key _ (by simp only [oneB, if_neg n3]; omega), key _ (by simp only [twoB, if_neg n3]; omega)]
    by_cases he : y = (((i + 1 : Nat) : Int), ((j + 1 : Nat) : Int))
    · rw [if_pos he, hval, if_pos (by rw [he]; simp; omega), he]
    · rw [if_neg he]
      have hne : ¬ (y.1 = ((i + 1 : Nat) : Int) ∧ y.2 = ((j + 1 : Nat) : Int)) := fun q => he (Prod.ext q.1 q.2)
      by_cases hc : (1 ≤ y.1 ∧ y.1 ≤ i ∧ 1 ≤ y.2 ∧ y.2 ≤ h) ∨ (y.1 = (i : Int) + 1 ∧ 1 ≤ y.2 ∧ y.2 ≤ j)
      · rw [if_pos hc, if_pos (by omega)]
      · rw [if_neg hc, if_neg (by omega)]
theorem bestV_eq {kerf : Int} (hk : 0 ≤ kerf) {l : List Kd} {w ht : Int} (hw : 1 ≤ w) (hh : 1 ≤ ht) : bestV kerf l w ht = V kerf (l.map (·.worth)) l (w, ht) := by
  unfold bestV
  have := tab_look hk (ws := l.map (·.worth)) (kl := l) (h := ht.toNat) w.toNat 0 (Nat.zero_le _) (w, ht)
  rw [show boardsL w.toNat ht.toNat ++ row (w.toNat + 1) 0 = boardsL w.toNat ht.toNat by simp [row]] at this
  rw [this, if_pos]
  exact .inl ⟨hw, by show w ≤ w.toNat; omega, hh, by show ht ≤ ht.toNat; omega⟩
end Go.A.Pk
end
section
namespace Go.A.Pk
variable {kerf : Int} {ws : List Int} {kl : List Kd}
theorem V_nonneg (hk : 0 ≤ kerf) (p : Int × Int) : 0 ≤ V kerf ws kl p := by
  by_cases h : 1 ≤ p.1 ∧ 1 ≤ p.2
  · obtain ⟨a, ha⟩ := Int.eq_ofNat_of_zero_le (show 0 ≤ p.1 by omega)
    obtain ⟨b, hb⟩ := Int.eq_ofNat_of_zero_le (show 0 ≤ p.2 by omega)
    have e : p = ((a : Int), (b : Int)) := Prod.ext ha hb
    rw [e, V_eq hk (by omega) (by omega)]
    have h1 : (0 : Int) ≤ leafM ws (leavesL a b kl 0) 0 := (foldM_ge (f := fun x : Nat × Nat => ws.getD x.2 0) (xs := leavesL a b kl 0) (m := 0)).1
    exact Int.le_trans h1 foldM_ge.1
  · rw [V_out h]; exact Int.le_refl _
theorem V_across (hk : 0 ≤ kerf) {a b n : Int} (h1 : 1 ≤ n) (h2 : n < a) (hb : 1 ≤ b) : V kerf ws kl (n, b) + V kerf ws kl (a - n - kerf, b) ≤ V kerf ws kl (a, b) := by
  obtain ⟨a, rfl⟩ := Int.eq_ofNat_of_zero_le (show 0 ≤ a by omega)
  obtain ⟨b, rfl⟩ := Int.eq_ofNat_of_zero_le (show 0 ≤ b by omega)
  obtain ⟨n, rfl⟩ := Int.eq_ofNat_of_zero_le (show 0 ≤ n by omega)
  rw [V_eq hk (a := a) (b := b) (by omega) (by omega)]
  obtain ⟨m, rfl⟩ : ∃ m, n = m + 1 := ⟨n - 1, by omega⟩
  exact (foldM_ge (f := fun x => V kerf ws kl (oneB x a b) + V kerf ws kl (twoB kerf x a b)) (xs := cutsL a b)).2 (3, m + 1) (cuts_mem3 (by omega))
theorem V_along (hk : 0 ≤ kerf) {a b n : Int} (h1 : 1 ≤ n) (h2 : n < b) (ha : 1 ≤ a) : V kerf ws kl (a, n) + V kerf ws kl (a, b - n - kerf) ≤ V kerf ws kl (a, b) := by
  obtain ⟨a, rfl⟩ := Int.eq_ofNat_of_zero_le (show 0 ≤ a by omega)
  obtain ⟨b, rfl⟩ := Int.eq_ofNat_of_zero_le (show 0 ≤ b by omega)
  obtain ⟨n, rfl⟩ := Int.eq_ofNat_of_zero_le (show 0 ≤ n by omega)
  rw [V_eq hk (a := a) (b := b) (by omega) (by omega)]
  obtain ⟨m, rfl⟩ : ∃ m, n = m + 1 := ⟨n - 1, by omega⟩
  exact (foldM_ge (f := fun x => V kerf ws kl (oneB x a b) + V kerf ws kl (twoB kerf x a b)) (xs := cutsL a b)).2 (4, m + 1) (cuts_mem4 (by omega))
theorem leafAt_sw (k : Kd) (i a b : Nat) : leafAt (sw k) i b a = leafAt k i a b := by
  unfold leafAt sw
  congr 1
  · by_cases h : (a : Int) = k.w ∧ (b : Int) = k.h
    · rw [if_pos ⟨h.2, h.1⟩, if_pos h]
    · rw [if_neg (fun q => h ⟨q.2, q.1⟩), if_neg h]
  · by_cases h : k.turn = true ∧ (a : Int) = k.h ∧ (b : Int) = k.w
    · rw [if_pos ⟨h.1, h.2.2, h.2.1⟩, if_pos h]
    · rw [if_neg (fun q => h ⟨q.1, q.2.2, q.2.1⟩), if_neg h]
theorem leavesL_sw (a b : Nat) : ∀ (l : List Kd) (i : Nat), leavesL b a (l.map sw) i = leavesL a b l i
  | [], _ => rfl
  | k :: l, i => by simp only [List.map_cons, leavesL, leafAt_sw, leavesL_sw a b l (i + 1)]
theorem V_turn (hk : 0 ≤ kerf) : ∀ (n : Nat) (p : Int × Int), sz p ≤ n → V kerf ws (kl.map sw) (p.2, p.1) = V kerf ws kl p := by
  intro n
  induction n with
  | zero =>
    intro p hp
    unfold sz at hp
    rw [V_out (by show ¬ (1 ≤ p.2 ∧ 1 ≤ p.1); omega), V_out (by omega)]
  | succ n ih =>
    intro p hp
    by_cases h : 1 ≤ p.1 ∧ 1 ≤ p.2
    · obtain ⟨a, ha⟩ := Int.eq_ofNat_of_zero_le (show 0 ≤ p.1 by omega)
      obtain ⟨b, hb⟩ := Int.eq_ofNat_of_zero_le (show 0 ≤ p.2 by omega)
      have e : p = ((a : Int), (b : Int)) := Prod.ext ha hb
      rw [e] at hp h ⊢
      simp only at h
      have hs : sz ((a : Int), (b : Int)) = a + b := by simp [sz]
      rw [hs] at hp
      show V kerf ws (kl.map sw) ((b : Int), (a : Int)) = _
      rw [V_eq hk (by omega) (by omega), V_eq hk (by omega) (by omega), leavesL_sw]
      have go : ∀ x, x ∈ cutsL a b → V kerf ws kl (oneB x a b) + V kerf ws kl (twoB kerf x a b) = V kerf ws (kl.map sw) (oneB (7 - x.1, x.2) b a) + V kerf ws (kl.map sw) (twoB kerf (7 - x.1, x.2) b a) := fun x hx => by
        have hlt := cut_lt hk hx
        rcases cuts_of hx with ⟨e3, hl, hu⟩ | ⟨e4, hl, hu⟩
        · rw [← ih (oneB x a b) (by omega), ← ih (twoB kerf x a b) (by omega)]
          simp only [oneB, twoB, e3, if_true]
          simp
        · rw [← ih (oneB x a b) (by omega), ← ih (twoB kerf x a b) (by omega)]
          simp only [oneB, twoB, e4]
          simp
      have m1 : ∀ x, x ∈ cutsL a b → (7 - x.1, x.2) ∈ cutsL b a := fun x hx => by
        rcases cuts_of hx with ⟨e3, hl, hu⟩ | ⟨e4, hl, hu⟩
        · rw [e3, show x.2 = x.2 - 1 + 1 by omega]; exact cuts_mem4 (by omega)
        · rw [e4, show x.2 = x.2 - 1 + 1 by omega]; exact cuts_mem3 (by omega)
      apply Int.le_antisymm
      · refine foldM_le foldM_ge.1 fun x hx => ?_
        have hx' : (7 - x.1, x.2) ∈ cutsL a b := by
          rcases cuts_of hx with ⟨e3, hl, hu⟩ | ⟨e4, hl, hu⟩
          · rw [e3, show x.2 = x.2 - 1 + 1 by omega]; exact cuts_mem4 (by omega)
          · rw [e4, show x.2 = x.2 - 1 + 1 by omega]; exact cuts_mem3 (by omega)
        have h1 := go _ hx'
        have e7 : 7 - (7 - x.1) = x.1 := by rcases cuts_of hx with ⟨e3, _⟩ | ⟨e4, _⟩ <;> omega
        simp only [e7] at h1
        rw [← h1]
        exact foldM_ge.2 _ hx'
      · refine foldM_le foldM_ge.1 fun x hx => ?_
        rw [go x hx]
        exact foldM_ge.2 _ (m1 x hx)
    · rw [V_out (by show ¬ (1 ≤ p.2 ∧ 1 ≤ p.1); omega), V_out (by omega)]
theorem tn_get (l : List Kd) : ∀ (i j : Nat), (tn i l)[j]? = if j < i then (l[j]?).map sw else l[j]?
  | 0, j => by simp [tn]
  | i + 1, j => by
    rw [tn, List.getElem?_modify, tn_get l i j]
    by_cases h1 : j < i
    · have h2 : ¬ i = j := by omega
      rw [if_pos h1, if_pos (by omega)]
      cases l[j]? <;> simp [h2]
    · by_cases h2 : i = j
      · rw [if_neg h1, if_pos (by omega)]
        cases l[j]? <;> simp [h2]
      · rw [if_neg h1, if_neg (by omega)]
        cases l[j]? <;> simp [h2]
theorem tn_map (l : List Kd) : tn l.length l = l.map sw := by
  apply List.ext_getElem?
  intro j
  rw [tn_get, List.getElem?_map]
  by_cases h : j < l.length
  · rw [if_pos h]
  · rw [if_neg h, List.getElem?_eq_none (by omega)]; rfl
theorem chk_sw {l : List Kd} (h : chk kerf l = 0) : chk kerf (l.map sw) = 0 := by
  rw [chk_iff] at h ⊢
  obtain ⟨h1, h2, h3, h4⟩ := h
  refine ⟨by simpa using h1, h2, fun k hk => ?_, ?_⟩
  · obtain ⟨k0, hk0, rfl⟩ := List.mem_map.1 hk
    have := h3 k0 hk0
    exact ⟨this.1, this.2.2.1, this.2.1, this.2.2.2⟩
  · rw [List.pairwise_map]
    exact h4
theorem worth_sw (l : List Kd) : (l.map sw).map (·.worth) = l.map (·.worth) := by rw [List.map_map]; rfl
theorem best_turn {l : List Kd} (hc : chk kerf l = 0) {w ht : Int} (hb : OnB w ht) : bestV kerf (l.map sw) ht w = bestV kerf l w ht := by
  have hk := (chk_iff.1 hc).2.1.1
  obtain ⟨⟨h1, _⟩, h2, _⟩ := hb
  rw [bestV_eq hk h2 h1, bestV_eq hk h1 h2, worth_sw]
  exact V_turn hk _ (w, ht) (Nat.le_refl _)
theorem best_wide {l : List Kd} (hc : chk kerf l = 0) {w ht : Int} (hb : OnB w ht) : bestV kerf l w ht ≤ bestV kerf l (w + 1) ht := by
  have hk := (chk_iff.1 hc).2.1.1
  obtain ⟨⟨h1, _⟩, h2, _⟩ := hb
  rw [bestV_eq hk h1 h2, bestV_eq hk (by omega) h2]
  have := V_across (ws := l.map (·.worth)) (kl := l) hk (a := w + 1) (b := ht) (n := w) h1 (by omega) h2
  have := V_nonneg (ws := l.map (·.worth)) (kl := l) hk (w + 1 - w - kerf, ht)
  omega
theorem best_high {l : List Kd} (hc : chk kerf l = 0) {w ht : Int} (hb : OnB w ht) : bestV kerf l w ht ≤ bestV kerf l w (ht + 1) := by
  have hk := (chk_iff.1 hc).2.1.1
  obtain ⟨⟨h1, _⟩, h2, _⟩ := hb
  rw [bestV_eq hk h1 h2, bestV_eq hk h1 (by omega)]
  have := V_along (ws := l.map (·.worth)) (kl := l) hk (a := w) (b := ht + 1) (n := ht) h2 (by omega) h1
  have := V_nonneg (ws := l.map (·.worth)) (kl := l) hk (w, ht + 1 - ht - kerf)
  omega
theorem best_cut {l : List Kd} (hc : chk kerf l = 0) {w ht c : Int} (hb : OnB w ht) (h1 : 1 ≤ c) (h2 : c < w) : bestV kerf l c ht ≤ bestV kerf l w ht ∧ (1 ≤ w - c - kerf → bestV kerf l c ht + bestV kerf l (w - c - kerf) ht ≤ bestV kerf l w ht) := by
  have hk := (chk_iff.1 hc).2.1.1
  obtain ⟨⟨h3, _⟩, h4, _⟩ := hb
  have h5 := V_across (ws := l.map (·.worth)) (kl := l) hk (a := w) (b := ht) (n := c) h1 h2 h4
  have h6 := V_nonneg (ws := l.map (·.worth)) (kl := l) hk (w - c - kerf, ht)
  rw [bestV_eq hk h1 h4, bestV_eq hk h3 h4]
  refine ⟨by omega, fun h => ?_⟩
  rw [bestV_eq hk h h4]
  exact h5
end Go.A.Pk
end
section
set_option maxRecDepth 100000
namespace Go.A.Pk
variable {T : Nat → Option AFunc}
theorem tabL_bd {W kerf : Int} {ws : List Int} {kl : List Kd} (hW : 0 ≤ W) (hk : 0 ≤ kerf) (hws : ∀ x ∈ ws, 0 ≤ x ∧ x ≤ W) : ∀ (xs : List (Nat × Nat)) (t : Tab), (∀ x ∈ xs, 1 ≤ x.1 ∧ 1 ≤ x.2) → Bd W t → Bd W (xs.foldl (fun t x => upd t x (val kerf ws kl t x.1 x.2)) t)
  | [], t, _, h => h
  | x :: xs, t, hx, h => tabL_bd hW hk hws xs _ (fun y hy => hx y (List.mem_cons_of_mem _ hy)) (upd_bd (hx x (List.mem_cons_self ..)) (val_bd hW hk hws h (hx x (List.mem_cons_self ..)).1 (hx x (List.mem_cons_self ..)).2) h)
theorem bestV_bd {kerf : Int} {l : List Kd} (hc : chk kerf l = 0) {w ht : Int} (hb : OnB w ht) : 0 ≤ bestV kerf l w ht ∧ bestV kerf l w ht ≤ 256000000 := by
  obtain ⟨q1, q2, q3, q4⟩ := chk_iff.1 hc
  have hB : Bd 1000000 (tabL kerf (l.map (·.worth)) l (boardsL w.toNat ht.toNat)) := tabL_bd (by omega) q2.1 (fun x hx => by
    obtain ⟨k, hk, rfl⟩ := List.mem_map.1 hx
    exact (q3 k hk).2.2.2) _ _ (fun x hx => by have := boards_of hx; omega) (fun e he => by cases he)
  obtain ⟨⟨h1, h2⟩, h3, h4⟩ := hb
  unfold bestV
  rcases look_bd (w, ht) hB with h | ⟨_, _, h5, h6⟩
  · rw [h]; omega
  · have := area_mono (W := 1000000) (a := w) (b := ht) (c := 16) (d := 16) (by omega) (by omega) h2 (by omega) h4
    exact ⟨h5, Int.le_trans h6 (Int.le_trans this (by omega))⟩
structure FnsS (T : Nat → Option AFunc) : Prop extends FnsW T, FnsH T where
  f6 : T 6 = some f6
  c19 : ∀ {h : Heap}, Rdy h → Pu T 19 [] h (.bool true)
def tail6 : ACode := (.seq (.region [g 93 (.load (some 2) (t 4)), g 94 (.mov (t 3)), g 95 (.mov (t 2)), g 96 (.call (.func 32) [(t 93), (t 94), (t 95)]), g 92 (.mov (t 96)), g 97 (.extract (t 92) 0), g 98 (.extract (t 92) 1), g 19 (.mov (t 97)), g 20 (.mov (t 98))] [1, 2, 3, 4, 9, 19, 20])
 (.seq (.seq (.region [g 99 (.mov (t 20)), g 100 (.bin (.num .neq) (t 99) (.const (.int .i64 0))), g 101 (.mov (t 100)), ⟨some 102, .mov (t 3), (some (101, false))⟩, ⟨some 103, .mov (t 1), (some (101, false))⟩, ⟨some 104, .bin (.num .geq) (t 102) (t 103), (some (101, false))⟩, g 105 (.pick (t 101) (.const (.bool true)) (t 104))] [1, 2, 3, 4, 9, 19, 105])
 (.cond (t 105) (.seq (.region [g 106 (.call (.func 19) []), g 8 (.mov (t 106))] [8])
 .ret) .skip))
 (.seq (.region [g 108 (.load (some 2) (t 4)), g 109 (.mov (t 1)), g 110 (.mov (t 3)), g 111 (.bin (.num .sub) (t 109) (t 110)), g 112 (.faddr 1 (t 4)), g 113 (.load none (t 112)), g 114 (.bin (.num .sub) (t 111) (t 113)), g 115 (.mov (t 2)), g 116 (.call (.func 32) [(t 108), (t 114), (t 115)]), g 107 (.mov (t 116)), g 117 (.extract (t 107) 0), g 118 (.extract (t 107) 1), g 21 (.mov (t 117)), g 22 (.mov (t 118))] [9, 19, 21, 22])
 (.seq (.region [g 119 (.call (.func 19) []), g 120 (.mov (t 119)), ⟨some 121, .mov (t 9), (some (120, true))⟩, ⟨some 122, .mov (t 19), (some (120, true))⟩, ⟨some 123, .bin (.num .geq) (t 121) (t 122), (some (120, true))⟩, g 124 (.pick (t 120) (t 123) (.const (.bool false))), g 125 (.mov (t 124)), ⟨some 126, .mov (t 22), (some (125, true))⟩, ⟨some 127, .bin (.num .neq) (t 126) (.const (.int .i64 0)), (some (125, true))⟩, ⟨some 128, .mov (t 127), (some (125, true))⟩, ⟨some 129, .mov (t 9), (some (128, false))⟩, ⟨some 130, .mov (t 19), (some (128, false))⟩, ⟨some 131, .mov (t 21), (some (128, false))⟩, ⟨some 132, .bin (.num .add) (t 130) (t 131), (some (128, false))⟩, ⟨some 133, .bin (.num .geq) (t 129) (t 132), (some (128, false))⟩, ⟨some 134, .pick (t 128) (.const (.bool true)) (t 133), (some (125, true))⟩, g 135 (.pick (t 125) (t 134) (.const (.bool false))), g 8 (.mov (t 135))] [8])
 .ret))))
theorem al_mono {f : Nat} {args : List Value} {h : Heap} {Q Q' : Value → Heap → Prop} (H : Al T f args h Q) (hq : ∀ v h', Q v h' → Q' v h') : Al T f args h Q' :=
  CW.mono H fun r h' ⟨hx, v, hv, q⟩ => ⟨hx, v, hv, hq _ _ q⟩
theorem orErr_saw2 {er kerf : Int} {l : List Kd} {v : Value} {h : Heap} (q : orErr er (SawQ 0 kerf l) v h) : SawQ er (if er = 0 then kerf else 0) (if er = 0 then l else []) v h := by
  unfold orErr at q
  split at q
  · rename_i h0; simp only [if_pos h0]; rw [h0]; exact q
  · rename_i h0; simp only [if_neg h0]; exact q
theorem bestR_ok {kerf : Int} {l : List Kd} {w ht : Int} (h : asked kerf l (OnB w ht) = 0) : bestR kerf l w ht = .tuple #[.int .i64 (bestV kerf l w ht), .int .i64 0] := by unfold bestR; rw [if_pos h, h]
theorem bestR_no {kerf : Int} {l : List Kd} {w ht : Int} (h : ¬ asked kerf l (OnB w ht) = 0) : bestR kerf l w ht = .tuple #[.int .i64 0, .int .i64 (asked kerf l (OnB w ht))] := by unfold bestR; rw [if_neg h]
theorem asked_ok {kerf : Int} {l : List Kd} {p : Prop} [Decidable p] (hc : chk kerf l = 0) (hp : p) : asked kerf l p = 0 := by unfold asked; rw [if_pos hc, if_pos hp]
set_option maxHeartbeats 4000000 in
theorem shape_tail (F : FnsS T) {base p4 : Nat} {H : Heap} (hw : WF H) (hlog : H.log = []) {a : Option Addr} {n c : Nat} {l : List Kd} {kerf w ht cut : Int} (g4 : H.get p4 = some (.cells [.slice a n c, .int .i64 kerf] true 1)) (hs : SliceOf H 5 (.slice a n c) n (kcs l)) (hn : n < 1000000) (hc : chk kerf l = 0) (hb : OnB w ht) :
    WE T base none tail6 (endP [(8, none)] (.bool true)) [(1, .int .i64 w), (2, .int .i64 ht), (3, .int .i64 cut), (4, .pointer (some ⟨p4, 0, none⟩)), (9, .int .i64 (bestV kerf l w ht)), (91, .bool false)] [] H := by
  have hk := (chk_iff.1 hc).2.1
  have hb0 := hb
  obtain ⟨⟨b1, b2⟩, b3, b4⟩ := hb0
  have hN := bestV_bd hc hb
  unfold tail6
  refine wE_seq ?_; refine wE_region ?_; refine wO_val (a_loadN (by exact rfl) (by assumption) (by exact rfl) (by exact rfl)) ?_; refine wO_val (a_mov (by exact rfl)) ?_; refine wO_val (a_mov (by exact rfl)) ?_
  refine wO_call (a_call (by exact rfl) (by exact rfl) (by exact rfl) (by exact rfl)) ?_
  have C1 := best32 F.toFnsW (.of hw) (hs.log []) kerf hn cut ht
  by_cases hK : asked kerf l (OnB cut ht) = 0
  · rw [bestR_ok hK] at C1
    have hcut := (asked_zero hK).2
    have hc1 := hcut
    obtain ⟨⟨e1, e2⟩, _⟩ := hc1
    refine FW.pu C1 ?_
    by_cases hge : w ≤ cut
    · refine wO_val (a_mov (by exact rfl)) ?_; refine wO_val (a_extract (by exact rfl) (by exact rfl)) ?_; refine wO_val (a_extract (by exact rfl) (by exact rfl)) ?_; refine wO_val (a_mov (by exact rfl)) ?_; refine wO_val (a_mov (by exact rfl)) ?_; refine wO_nil ?_; refine kR_k (by simp only [keepE, dstE, geT, paramsE, cond_true, cond_false, Nat.beq]; exact rfl) ?_; refine kS_n ?_; refine wE_seq ?_
      refine wE_seq ?_; refine wE_region ?_; refine wO_val (a_mov (by exact rfl)) ?_; refine wO_val (a_num (by exact rfl) (by exact rfl) (by exact m_neqF (by omega))) ?_; refine wO_val (a_mov (by exact rfl)) ?_; refine wO_on (by exact rfl) ?_; refine wO_val (a_mov (by exact rfl)) ?_; refine wO_on (by exact rfl) ?_; refine wO_val (a_mov (by exact rfl)) ?_; refine wO_on (by exact rfl) ?_
      refine wO_val (a_num (by exact rfl) (by exact rfl) (by exact m_geqT (by omega))) ?_; refine wO_val (a_pickF (by exact rfl) (by exact rfl)) ?_; refine wO_nil ?_; refine kR_k (by simp only [keepE, dstE, geT, paramsE, cond_true, cond_false, Nat.beq]; exact rfl) ?_; refine kS_n ?_; refine wE_true (by exact rfl) ?_; refine wE_seq ?_; refine wE_region ?_
      refine wO_call (a_call (by exact rfl) (by exact rfl) (by exact rfl) (by exact rfl)) ?_
      refine FW.pu (F.c19 (.of hw)) ?_
      refine wO_val (a_mov (by exact rfl)) ?_; refine wO_nil ?_; refine kR_k (by simp only [keepE, dstE, geT, paramsE, cond_true, cond_false, Nat.beq]; exact rfl) ?_; refine kS_n ?_; refine wE_ret ?_; refine kS_r ?_
      exact endP_ret hlog rfl rfl
    · have hct := best_cut hc hb e1 (by omega)
      refine wO_val (a_mov (by exact rfl)) ?_; refine wO_val (a_extract (by exact rfl) (by exact rfl)) ?_; refine wO_val (a_extract (by exact rfl) (by exact rfl)) ?_; refine wO_val (a_mov (by exact rfl)) ?_; refine wO_val (a_mov (by exact rfl)) ?_; refine wO_nil ?_; refine kR_k (by simp only [keepE, dstE, geT, paramsE, cond_true, cond_false, Nat.beq]; exact rfl) ?_; refine kS_n ?_; refine wE_seq ?_
      refine wE_seq ?_; refine wE_region ?_; refine wO_val (a_mov (by exact rfl)) ?_; refine wO_val (a_num (by exact rfl) (by exact rfl) (by exact m_neqF (by omega))) ?_; refine wO_val (a_mov (by exact rfl)) ?_; refine wO_on (by exact rfl) ?_; refine wO_val (a_mov (by exact rfl)) ?_; refine wO_on (by exact rfl) ?_; refine wO_val (a_mov (by exact rfl)) ?_; refine wO_on (by exact rfl) ?_
      refine wO_val (a_num (by exact rfl) (by exact rfl) (by exact m_geqF (by omega))) ?_; refine wO_val (a_pickF (by exact rfl) (by exact rfl)) ?_; refine wO_nil ?_; refine kR_k (by simp only [keepE, dstE, geT, paramsE, cond_true, cond_false, Nat.beq]; exact rfl) ?_; refine kS_n ?_; refine wE_false (by exact rfl) ?_; refine wE_skip ?_; refine kS_n ?_; refine wE_seq ?_; refine wE_region ?_
      refine wO_val (a_loadN (by exact rfl) (by assumption) (by exact rfl) (by exact rfl)) ?_; refine wO_val (a_mov (by exact rfl)) ?_; refine wO_val (a_mov (by exact rfl)) ?_; refine wO_val (a_num (by exact rfl) (by exact rfl) (by exact m_sub (wrapA_i64 (by omega) (by omega)))) ?_; refine wO_val (a_faddr (by exact rfl)) ?_; refine wO_val (a_load (by exact rfl) (by assumption) (by exact rfl)) ?_
      refine wO_val (a_num (by exact rfl) (by exact rfl) (by exact m_sub (wrapA_i64 (by omega) (by omega)))) ?_; refine wO_val (a_mov (by exact rfl)) ?_
      refine wO_call (a_call (by exact rfl) (by exact rfl) (by exact rfl) (by exact rfl)) ?_
      have C2 := best32 F.toFnsW (.of hw) (hs.log []) kerf hn (w - cut - kerf) ht
      by_cases hT : asked kerf l (OnB (w - cut - kerf) ht) = 0
      · rw [bestR_ok hT] at C2
        have hon := (asked_zero hT).2
        have hN2 := bestV_bd hc hon
        have hN1 := bestV_bd hc hcut
        have h2 := hct.2 hon.1.1
        have h1 := hct.1
        refine FW.pu C2 ?_
        refine wO_val (a_mov (by exact rfl)) ?_; refine wO_val (a_extract (by exact rfl) (by exact rfl)) ?_; refine wO_val (a_extract (by exact rfl) (by exact rfl)) ?_; refine wO_val (a_mov (by exact rfl)) ?_; refine wO_val (a_mov (by exact rfl)) ?_; refine wO_nil ?_; refine kR_k (by simp only [keepE, dstE, geT, paramsE, cond_true, cond_false, Nat.beq]; exact rfl) ?_; refine kS_n ?_; refine wE_seq ?_
        refine wE_region ?_
        refine wO_call (a_call (by exact rfl) (by exact rfl) (by exact rfl) (by exact rfl)) ?_
        refine FW.pu (F.c19 (.of hw)) ?_
        refine wO_val (a_mov (by exact rfl)) ?_; refine wO_on (by exact rfl) ?_; refine wO_val (a_mov (by exact rfl)) ?_; refine wO_on (by exact rfl) ?_; refine wO_val (a_mov (by exact rfl)) ?_; refine wO_on (by exact rfl) ?_; refine wO_val (a_num (by exact rfl) (by exact rfl) (by exact m_geqT (by omega))) ?_; refine wO_val (a_pickT (by exact rfl) (by exact rfl)) ?_; refine wO_val (a_mov (by exact rfl)) ?_
        refine wO_on (by exact rfl) ?_; refine wO_val (a_mov (by exact rfl)) ?_; refine wO_on (by exact rfl) ?_; refine wO_val (a_num (by exact rfl) (by exact rfl) (by exact m_neqF (by omega))) ?_; refine wO_on (by exact rfl) ?_; refine wO_val (a_mov (by exact rfl)) ?_; refine wO_on (by exact rfl) ?_; refine wO_val (a_mov (by exact rfl)) ?_; refine wO_on (by exact rfl) ?_
        refine wO_val (a_mov (by exact rfl)) ?_; refine wO_on (by exact rfl) ?_; refine wO_val (a_mov (by exact rfl)) ?_; refine wO_on (by exact rfl) ?_; refine wO_val (a_num (by exact rfl) (by exact rfl) (by exact m_add (wrapA_i64 (by omega) (by omega)))) ?_; refine wO_on (by exact rfl) ?_; refine wO_val (a_num (by exact rfl) (by exact rfl) (by exact m_geqT (by omega))) ?_; refine wO_on (by exact rfl) ?_
        refine wO_val (a_pickF (by exact rfl) (by exact rfl)) ?_; refine wO_val (a_pickT (by exact rfl) (by exact rfl)) ?_; refine wO_val (a_mov (by exact rfl)) ?_; refine wO_nil ?_; refine kR_k (by simp only [keepE, dstE, geT, paramsE, cond_true, cond_false, Nat.beq]; exact rfl) ?_; refine kS_n ?_; refine wE_ret ?_
        exact endP_ret hlog rfl rfl
      · rw [bestR_no hT] at C2
        have h1 := hct.1
        refine FW.pu C2 ?_
        refine wO_val (a_mov (by exact rfl)) ?_; refine wO_val (a_extract (by exact rfl) (by exact rfl)) ?_; refine wO_val (a_extract (by exact rfl) (by exact rfl)) ?_; refine wO_val (a_mov (by exact rfl)) ?_; refine wO_val (a_mov (by exact rfl)) ?_; refine wO_nil ?_; refine kR_k (by simp only [keepE, dstE, geT, paramsE, cond_true, cond_false, Nat.beq]; exact rfl) ?_; refine kS_n ?_; refine wE_seq ?_
        refine wE_region ?_
        refine wO_call (a_call (by exact rfl) (by exact rfl) (by exact rfl) (by exact rfl)) ?_
        refine FW.pu (F.c19 (.of hw)) ?_
        refine wO_val (a_mov (by exact rfl)) ?_; refine wO_on (by exact rfl) ?_; refine wO_val (a_mov (by exact rfl)) ?_; refine wO_on (by exact rfl) ?_; refine wO_val (a_mov (by exact rfl)) ?_; refine wO_on (by exact rfl) ?_; refine wO_val (a_num (by exact rfl) (by exact rfl) (by exact m_geqT (by omega))) ?_; refine wO_val (a_pickT (by exact rfl) (by exact rfl)) ?_; refine wO_val (a_mov (by exact rfl)) ?_
        refine wO_on (by exact rfl) ?_; refine wO_val (a_mov (by exact rfl)) ?_; refine wO_on (by exact rfl) ?_; refine wO_val (a_num (by exact rfl) (by exact rfl) (by exact m_neqT (by omega))) ?_; refine wO_on (by exact rfl) ?_; refine wO_val (a_mov (by exact rfl)) ?_; refine wO_off (by exact rfl) (by exact rfl) ?_; refine wO_off (by exact rfl) (by exact rfl) ?_
        refine wO_off (by exact rfl) (by exact rfl) ?_; refine wO_off (by exact rfl) (by exact rfl) ?_; refine wO_off (by exact rfl) (by exact rfl) ?_; refine wO_on (by exact rfl) ?_; refine wO_val (a_pickT (by exact rfl) (by exact rfl)) ?_; refine wO_val (a_pickT (by exact rfl) (by exact rfl)) ?_; refine wO_val (a_mov (by exact rfl)) ?_; refine wO_nil ?_
        refine kR_k (by simp only [keepE, dstE, geT, paramsE, cond_true, cond_false, Nat.beq]; exact rfl) ?_; refine kS_n ?_; refine wE_ret ?_
        exact endP_ret hlog rfl rfl
  · rw [bestR_no hK] at C1
    refine FW.pu C1 ?_
    refine wO_val (a_mov (by exact rfl)) ?_; refine wO_val (a_extract (by exact rfl) (by exact rfl)) ?_; refine wO_val (a_extract (by exact rfl) (by exact rfl)) ?_; refine wO_val (a_mov (by exact rfl)) ?_; refine wO_val (a_mov (by exact rfl)) ?_; refine wO_nil ?_; refine kR_k (by simp only [keepE, dstE, geT, paramsE, cond_true, cond_false, Nat.beq]; exact rfl) ?_; refine kS_n ?_; refine wE_seq ?_
    refine wE_seq ?_; refine wE_region ?_; refine wO_val (a_mov (by exact rfl)) ?_; refine wO_val (a_num (by exact rfl) (by exact rfl) (by exact m_neqT (by omega))) ?_; refine wO_val (a_mov (by exact rfl)) ?_; refine wO_off (by exact rfl) (by exact rfl) ?_; refine wO_off (by exact rfl) (by exact rfl) ?_; refine wO_off (by exact rfl) (by exact rfl) ?_
    refine wO_val (a_pickT (by exact rfl) (by exact rfl)) ?_; refine wO_nil ?_; refine kR_k (by simp only [keepE, dstE, geT, paramsE, cond_true, cond_false, Nat.beq]; exact rfl) ?_; refine kS_n ?_; refine wE_true (by exact rfl) ?_; refine wE_seq ?_; refine wE_region ?_
    refine wO_call (a_call (by exact rfl) (by exact rfl) (by exact rfl) (by exact rfl)) ?_
    refine FW.pu (F.c19 (.of hw)) ?_
    refine wO_val (a_mov (by exact rfl)) ?_; refine wO_nil ?_; refine kR_k (by simp only [keepE, dstE, geT, paramsE, cond_true, cond_false, Nat.beq]; exact rfl) ?_; refine kS_n ?_; refine wE_ret ?_; refine kS_r ?_
    exact endP_ret hlog rfl rfl
set_option maxHeartbeats 8000000 in
theorem law6 (F : FnsS T) {h : Heap} (hr : Rdy h) {a : Option Addr} {n c : Nat} {l : List Kd} (hs : SliceOf h 5 (.slice a n c) n (kcs l)) (kerf w ht cut : Int) :
    Pu T 6 [.agg #[.slice a n c, .int .i64 kerf], .int .i64 w, .int .i64 ht, .int .i64 cut] h (.bool true) := by
  refine .of F.toFnsE.toFnsA.p F.f6 hr rfl ?_
  have hx : Ext h (h.push (.cells [.slice a n c, .int .i64 kerf] true 1)) := (Ext.refl h).push _
  obtain rfl : n = l.length := by have := hs.len; rw [kcs_length] at this; omega
  refine wE_seq ?_; refine wE_region ?_; refine wO_val (a_box (by exact rfl) (by exact rfl)) ?_; refine wO_val (a_mov (by exact rfl)) ?_; refine wO_nil ?_; refine kR_k (by simp only [keepE, dstE, geT, paramsE, cond_true, cond_false, Nat.beq]; exact rfl) ?_; refine kS_n ?_; refine wE_seq ?_; refine wE_seq ?_; refine wE_region ?_
  refine wO_val (a_loadN (by exact rfl) (by (simp (disch := first | omega | (simp only [z1, z2]; omega)) only [z3, z4, z5, z6, z7, z1, z2, *]; exact rfl)) (by exact rfl) (by exact rfl)) ?_
  refine wO_call (a_call (by exact rfl) (by exact rfl) (by exact rfl) (by exact rfl)) ?_
  refine FW.pu (few18 F.toFnsE.toFnsC (.of (hx.wf hr.wf)) kerf) ?_
  by_cases hfew : l.length ≤ 16
  · have hn : l.length < 1000000 := by omega
    rw [decide_eq_true hfew]
    refine wO_val (a_not (by exact rfl)) ?_; refine wO_nil ?_; refine kR_k (by simp only [keepE, dstE, geT, paramsE, cond_true, cond_false, Nat.beq]; exact rfl) ?_; refine kS_n ?_; refine wE_false (by exact rfl) ?_; refine wE_skip ?_; refine kS_n ?_; refine wE_seq ?_; refine wE_region ?_
    refine wO_val (a_loadN (by exact rfl) (by (simp (disch := first | omega | (simp only [z1, z2]; omega)) only [z3, z4, z5, z6, z7, z1, z2, *]; exact rfl)) (by exact rfl) (by exact rfl)) ?_; refine wO_val (a_mov (by exact rfl)) ?_; refine wO_val (a_mov (by exact rfl)) ?_
    refine wO_call (a_call (by exact rfl) (by exact rfl) (by exact rfl) (by exact rfl)) ?_
    have C1 := best32 F.toFnsW (.of (hx.wf hr.wf)) ((hs.ext hx).log []) kerf hn w ht
    by_cases hA : asked kerf l (OnB w ht) = 0
    · rw [bestR_ok hA] at C1
      have hc := (asked_zero hA).1
      have hb := (asked_zero hA).2
      have hb0 := hb
      obtain ⟨⟨b1, b2⟩, b3, b4⟩ := hb0
      refine FW.pu C1 ?_
      refine wO_val (a_mov (by exact rfl)) ?_; refine wO_val (a_extract (by exact rfl) (by exact rfl)) ?_; refine wO_val (a_extract (by exact rfl) (by exact rfl)) ?_; refine wO_val (a_mov (by exact rfl)) ?_; refine wO_val (a_mov (by exact rfl)) ?_; refine wO_nil ?_; refine kR_k (by simp only [keepE, dstE, geT, paramsE, cond_true, cond_false, Nat.beq]; exact rfl) ?_; refine kS_n ?_; refine wE_seq ?_
      refine wE_region ?_; refine wO_val (a_loadN (by exact rfl) (by (simp (disch := first | omega | (simp only [z1, z2]; omega)) only [z3, z4, z5, z6, z7, z1, z2, *]; exact rfl)) (by exact rfl) (by exact rfl)) ?_
      refine wO_call (a_call (by exact rfl) (by exact rfl) (by exact rfl) (by exact rfl)) ?_
      refine FW.al (al_mono (turned39 F.toFnsH (.of (hx.wf hr.wf)) ((hs.ext hx).log []) kerf hn) fun v h' q => orErr_saw2 q) (fun v h' m q => SawQ.log v h' m q) ?_
      rintro _ h2 hx2 ⟨s2, rfl, q2⟩
      simp only [hc, ↓reduceIte, tn_map] at q2 ⊢
      obtain ⟨a2, c2, rfl⟩ := q2.form
      rw [List.length_map] at q2 ⊢
      have hx12 := hx.trans hx2
      have k1 : h.next < h2.next := hx2.next
      have g1 : h2.get h.next = some (.cells [.slice a l.length c, .int .i64 kerf] true 1) := by rw [hx2.old _ (by (simp only [z1, z2]; omega))]; (simp (disch := first | omega | (simp only [z1, z2]; omega)) only [z3, z4, z5, z6, z7, z1, z2, *]; exact rfl)
      have hl2 : h2.log = [] := hx12.log.trans hr.log
      have w2 := hx12.wf hr.wf
      have s1 := hs.ext hx12
      clear hx2
      refine wO_val (a_mov (by exact rfl)) ?_; refine wO_val (a_extract (by exact rfl) (by exact rfl)) ?_; refine wO_val (a_extract (by exact rfl) (by exact rfl)) ?_; refine wO_val a_new ?_
      refine wO_val (a_store (by exact rfl) (by exact rfl) (by (simp (disch := first | omega | (simp only [z1, z2]; omega)) only [z3, z4, z5, z6, z7, z1, z2, *]; exact rfl)) (by exact rfl) (by exact rfl)) ?_; refine wO_val (a_mov (by exact rfl)) ?_; refine wO_nil ?_
      refine kR_k (by simp only [keepE, dstE, geT, paramsE, cond_true, cond_false, Nat.beq]; exact rfl) ?_; refine kS_n ?_; refine wE_seq ?_; refine wE_seq ?_; refine wE_region ?_; refine wO_val (a_mov (by exact rfl)) ?_; refine wO_val (a_num (by exact rfl) (by exact rfl) (by exact m_neqF (by omega))) ?_; refine wO_val (a_mov (by exact rfl)) ?_; refine wO_on (by exact rfl) ?_
      refine wO_val (a_mov (by exact rfl)) ?_; refine wO_on (by exact rfl) ?_; refine wO_val (a_num (by exact rfl) (by exact rfl) (by exact m_neqF (by omega))) ?_; refine wO_val (a_pickF (by exact rfl) (by exact rfl)) ?_; refine wO_nil ?_; refine kR_k (by simp only [keepE, dstE, geT, paramsE, cond_true, cond_false, Nat.beq]; exact rfl) ?_; refine kS_n ?_; refine wE_false (by exact rfl) ?_
      refine wE_skip ?_; refine kS_n ?_; refine wE_seq ?_; refine wE_region ?_; refine wO_val (a_loadN (by exact rfl) (by (simp (disch := first | omega | (simp only [z1, z2]; omega)) only [z3, z4, z5, z6, z7, z1, z2, *]; exact rfl)) (by exact rfl) (by exact rfl)) ?_
      refine wO_val (a_mov (by exact rfl)) ?_; refine wO_val (a_mov (by exact rfl)) ?_
      refine wO_call (a_call (by exact rfl) (by exact rfl) (by exact rfl) (by exact rfl)) ?_
      have hy : Ext h2 ((h2.push (.cells [.slice none 0 0, .int .i64 0] true 1)).wr h.next h2.next (.cells (lputs [.slice none 0 0, .int .i64 0] 0 (cellsOf (.agg #[.slice a2 l.length c2, .int .i64 kerf]))) true 1)) := ((Ext.refl h2).push _).wr (Nat.le_refl _) (Nat.le_of_lt k1)
      have g4 := hy.old h.next k1
      have w4 := hy.wf w2
      have l4 := hy.log.trans hl2
      have s4 := s1.ext hy
      have q4 := q2.ext hy
      have C2 := best32 F.toFnsW (.of w4) (q4.log []) kerf hn ht w
      rw [bestR_ok (asked_ok (chk_sw hc) ⟨hb.2, hb.1⟩), best_turn hc hb] at C2
      rw [g1] at g4
      refine FW.pu C2 ?_
      generalize (h2.push (.cells [.slice none 0 0, .int .i64 0] true 1)).wr h.next h2.next (.cells (lputs [.slice none 0 0, .int .i64 0] 0 (cellsOf (.agg #[.slice a2 l.length c2, .int .i64 kerf]))) true 1) = H at *
      clear C2 q4 hy
      refine wO_val (a_mov (by exact rfl)) ?_; refine wO_val (a_extract (by exact rfl) (by exact rfl)) ?_; refine wO_val (a_extract (by exact rfl) (by exact rfl)) ?_; refine wO_val (a_mov (by exact rfl)) ?_; refine wO_val (a_mov (by exact rfl)) ?_; refine wO_nil ?_; refine kR_k (by simp only [keepE, dstE, geT, paramsE, cond_true, cond_false, Nat.beq]; exact rfl) ?_; refine kS_n ?_; refine wE_seq ?_
      refine wE_seq ?_; refine wE_region ?_; refine wO_val (a_mov (by exact rfl)) ?_; refine wO_val (a_num (by exact rfl) (by exact rfl) (by exact m_neqF (by omega))) ?_; refine wO_val (a_mov (by exact rfl)) ?_; refine wO_on (by exact rfl) ?_; refine wO_val (a_mov (by exact rfl)) ?_; refine wO_on (by exact rfl) ?_; refine wO_val (a_mov (by exact rfl)) ?_; refine wO_on (by exact rfl) ?_
      refine wO_val (a_num (by exact rfl) (by exact rfl) (by exact m_neqF (by omega))) ?_; refine wO_val (a_pickF (by exact rfl) (by exact rfl)) ?_; refine wO_nil ?_; refine kR_k (by simp only [keepE, dstE, geT, paramsE, cond_true, cond_false, Nat.beq]; exact rfl) ?_; refine kS_n ?_; refine wE_false (by exact rfl) ?_; refine wE_skip ?_; refine kS_n ?_; refine wE_seq ?_; refine wE_region ?_
      refine wO_val (a_loadN (by exact rfl) (by assumption) (by exact rfl) (by exact rfl)) ?_; refine wO_val (a_mov (by exact rfl)) ?_; refine wO_val (a_num (by exact rfl) (by exact rfl) (by exact m_add (wrapA_i64 (by omega) (by omega)))) ?_; refine wO_val (a_mov (by exact rfl)) ?_
      refine wO_call (a_call (by exact rfl) (by exact rfl) (by exact rfl) (by exact rfl)) ?_
      have C3 := best32 F.toFnsW (.of w4) (s4.log []) kerf hn (w + 1) ht
      have C4 := best32 F.toFnsW (.of w4) (s4.log []) kerf hn w (ht + 1)
      have TAIL := shape_tail F (base := h.next) w4 l4 g4 s4 hn hc hb (cut := cut)
      have f1 := best_wide hc hb
      have f2 := best_high hc hb
      unfold tail6 at TAIL
      by_cases h3 : asked kerf l (OnB (w + 1) ht) = 0
      · rw [bestR_ok h3] at C3
        by_cases h4 : asked kerf l (OnB w (ht + 1)) = 0
        · rw [bestR_ok h4] at C4
          refine FW.pu C3 ?_
          refine wO_val (a_mov (by exact rfl)) ?_; refine wO_val (a_extract (by exact rfl) (by exact rfl)) ?_; refine wO_val (a_extract (by exact rfl) (by exact rfl)) ?_; refine wO_val (a_mov (by exact rfl)) ?_; refine wO_val (a_mov (by exact rfl)) ?_; refine wO_nil ?_; refine kR_k (by simp only [keepE, dstE, geT, paramsE, cond_true, cond_false, Nat.beq]; exact rfl) ?_; refine kS_n ?_; refine wE_seq ?_
          refine wE_region ?_; refine wO_val (a_loadN (by exact rfl) (by assumption) (by exact rfl) (by exact rfl)) ?_; refine wO_val (a_mov (by exact rfl)) ?_; refine wO_val (a_mov (by exact rfl)) ?_; refine wO_val (a_num (by exact rfl) (by exact rfl) (by exact m_add (wrapA_i64 (by omega) (by omega)))) ?_
          refine wO_call (a_call (by exact rfl) (by exact rfl) (by exact rfl) (by exact rfl)) ?_
          refine FW.pu C4 ?_
          refine wO_val (a_mov (by exact rfl)) ?_; refine wO_val (a_extract (by exact rfl) (by exact rfl)) ?_; refine wO_val (a_extract (by exact rfl) (by exact rfl)) ?_; refine wO_val (a_mov (by exact rfl)) ?_; refine wO_val (a_mov (by exact rfl)) ?_; refine wO_nil ?_; refine kR_k (by simp only [keepE, dstE, geT, paramsE, cond_true, cond_false, Nat.beq]; exact rfl) ?_; refine kS_n ?_; refine wE_seq ?_
          refine wE_seq ?_; refine wE_region ?_; refine wO_val (a_mov (by exact rfl)) ?_; refine wO_val (a_num (by exact rfl) (by exact rfl) (by exact m_eqlT (by omega))) ?_; refine wO_val (a_mov (by exact rfl)) ?_; refine wO_on (by exact rfl) ?_; refine wO_val (a_mov (by exact rfl)) ?_; refine wO_on (by exact rfl) ?_; refine wO_val (a_mov (by exact rfl)) ?_; refine wO_on (by exact rfl) ?_
          refine wO_val (a_num (by exact rfl) (by exact rfl) (by exact m_geqF (by omega))) ?_; refine wO_val (a_pickT (by exact rfl) (by exact rfl)) ?_; refine wO_val (a_mov (by exact rfl)) ?_; refine wO_on (by exact rfl) ?_; refine wO_val (a_mov (by exact rfl)) ?_; refine wO_on (by exact rfl) ?_; refine wO_val (a_num (by exact rfl) (by exact rfl) (by exact m_eqlT (by omega))) ?_
          refine wO_on (by exact rfl) ?_; refine wO_val (a_mov (by exact rfl)) ?_; refine wO_on (by exact rfl) ?_; refine wO_val (a_mov (by exact rfl)) ?_; refine wO_on (by exact rfl) ?_; refine wO_val (a_mov (by exact rfl)) ?_; refine wO_on (by exact rfl) ?_; refine wO_val (a_num (by exact rfl) (by exact rfl) (by exact m_geqF (by omega))) ?_; refine wO_on (by exact rfl) ?_
          refine wO_val (a_pickT (by exact rfl) (by exact rfl)) ?_; refine wO_val (a_pickF (by exact rfl) (by exact rfl)) ?_; refine wO_nil ?_; refine kR_k (by simp only [keepE, dstE, geT, paramsE, cond_true, cond_false, Nat.beq]; exact rfl) ?_; refine kS_n ?_; refine wE_false (by exact rfl) ?_; refine wE_skip ?_; refine kS_n ?_; exact TAIL
        · rw [bestR_no h4] at C4
          refine FW.pu C3 ?_
          refine wO_val (a_mov (by exact rfl)) ?_; refine wO_val (a_extract (by exact rfl) (by exact rfl)) ?_; refine wO_val (a_extract (by exact rfl) (by exact rfl)) ?_; refine wO_val (a_mov (by exact rfl)) ?_; refine wO_val (a_mov (by exact rfl)) ?_; refine wO_nil ?_; refine kR_k (by simp only [keepE, dstE, geT, paramsE, cond_true, cond_false, Nat.beq]; exact rfl) ?_; refine kS_n ?_; refine wE_seq ?_
          refine wE_region ?_; refine wO_val (a_loadN (by exact rfl) (by assumption) (by exact rfl) (by exact rfl)) ?_; refine wO_val (a_mov (by exact rfl)) ?_; refine wO_val (a_mov (by exact rfl)) ?_; refine wO_val (a_num (by exact rfl) (by exact rfl) (by exact m_add (wrapA_i64 (by omega) (by omega)))) ?_
          refine wO_call (a_call (by exact rfl) (by exact rfl) (by exact rfl) (by exact rfl)) ?_
          refine FW.pu C4 ?_
          refine wO_val (a_mov (by exact rfl)) ?_; refine wO_val (a_extract (by exact rfl) (by exact rfl)) ?_; refine wO_val (a_extract (by exact rfl) (by exact rfl)) ?_; refine wO_val (a_mov (by exact rfl)) ?_; refine wO_val (a_mov (by exact rfl)) ?_; refine wO_nil ?_; refine kR_k (by simp only [keepE, dstE, geT, paramsE, cond_true, cond_false, Nat.beq]; exact rfl) ?_; refine kS_n ?_; refine wE_seq ?_
          refine wE_seq ?_; refine wE_region ?_; refine wO_val (a_mov (by exact rfl)) ?_; refine wO_val (a_num (by exact rfl) (by exact rfl) (by exact m_eqlT (by omega))) ?_; refine wO_val (a_mov (by exact rfl)) ?_; refine wO_on (by exact rfl) ?_; refine wO_val (a_mov (by exact rfl)) ?_; refine wO_on (by exact rfl) ?_; refine wO_val (a_mov (by exact rfl)) ?_; refine wO_on (by exact rfl) ?_
          refine wO_val (a_num (by exact rfl) (by exact rfl) (by exact m_geqF (by omega))) ?_; refine wO_val (a_pickT (by exact rfl) (by exact rfl)) ?_; refine wO_val (a_mov (by exact rfl)) ?_; refine wO_on (by exact rfl) ?_; refine wO_val (a_mov (by exact rfl)) ?_; refine wO_on (by exact rfl) ?_; refine wO_val (a_num (by exact rfl) (by exact rfl) (by exact m_eqlF (by omega))) ?_
          refine wO_on (by exact rfl) ?_; refine wO_val (a_mov (by exact rfl)) ?_; refine wO_off (by exact rfl) (by exact rfl) ?_; refine wO_off (by exact rfl) (by exact rfl) ?_; refine wO_off (by exact rfl) (by exact rfl) ?_; refine wO_on (by exact rfl) ?_; refine wO_val (a_pickF (by exact rfl) (by exact rfl)) ?_; refine wO_val (a_pickF (by exact rfl) (by exact rfl)) ?_; refine wO_nil ?_
          refine kR_k (by simp only [keepE, dstE, geT, paramsE, cond_true, cond_false, Nat.beq]; exact rfl) ?_; refine kS_n ?_; refine wE_false (by exact rfl) ?_; refine wE_skip ?_; refine kS_n ?_; exact TAIL
      · rw [bestR_no h3] at C3
        by_cases h4 : asked kerf l (OnB w (ht + 1)) = 0
        · rw [bestR_ok h4] at C4
          refine FW.pu C3 ?_
          refine wO_val (a_mov (by exact rfl)) ?_; refine wO_val (a_extract (by exact rfl) (by exact rfl)) ?_; refine wO_val (a_extract (by exact rfl) (by exact rfl)) ?_; refine wO_val (a_mov (by exact rfl)) ?_; refine wO_val (a_mov (by exact rfl)) ?_; refine wO_nil ?_; refine kR_k (by simp only [keepE, dstE, geT, paramsE, cond_true, cond_false, Nat.beq]; exact rfl) ?_; refine kS_n ?_; refine wE_seq ?_
          refine wE_region ?_; refine wO_val (a_loadN (by exact rfl) (by assumption) (by exact rfl) (by exact rfl)) ?_; refine wO_val (a_mov (by exact rfl)) ?_; refine wO_val (a_mov (by exact rfl)) ?_; refine wO_val (a_num (by exact rfl) (by exact rfl) (by exact m_add (wrapA_i64 (by omega) (by omega)))) ?_
          refine wO_call (a_call (by exact rfl) (by exact rfl) (by exact rfl) (by exact rfl)) ?_
          refine FW.pu C4 ?_
          refine wO_val (a_mov (by exact rfl)) ?_; refine wO_val (a_extract (by exact rfl) (by exact rfl)) ?_; refine wO_val (a_extract (by exact rfl) (by exact rfl)) ?_; refine wO_val (a_mov (by exact rfl)) ?_; refine wO_val (a_mov (by exact rfl)) ?_; refine wO_nil ?_; refine kR_k (by simp only [keepE, dstE, geT, paramsE, cond_true, cond_false, Nat.beq]; exact rfl) ?_; refine kS_n ?_; refine wE_seq ?_
          refine wE_seq ?_; refine wE_region ?_; refine wO_val (a_mov (by exact rfl)) ?_; refine wO_val (a_num (by exact rfl) (by exact rfl) (by exact m_eqlF (by omega))) ?_; refine wO_val (a_mov (by exact rfl)) ?_; refine wO_off (by exact rfl) (by exact rfl) ?_; refine wO_off (by exact rfl) (by exact rfl) ?_; refine wO_off (by exact rfl) (by exact rfl) ?_
          refine wO_val (a_pickF (by exact rfl) (by exact rfl)) ?_; refine wO_val (a_mov (by exact rfl)) ?_; refine wO_on (by exact rfl) ?_; refine wO_val (a_mov (by exact rfl)) ?_; refine wO_on (by exact rfl) ?_; refine wO_val (a_num (by exact rfl) (by exact rfl) (by exact m_eqlT (by omega))) ?_; refine wO_on (by exact rfl) ?_; refine wO_val (a_mov (by exact rfl)) ?_; refine wO_on (by exact rfl) ?_
          refine wO_val (a_mov (by exact rfl)) ?_; refine wO_on (by exact rfl) ?_; refine wO_val (a_mov (by exact rfl)) ?_; refine wO_on (by exact rfl) ?_; refine wO_val (a_num (by exact rfl) (by exact rfl) (by exact m_geqF (by omega))) ?_; refine wO_on (by exact rfl) ?_; refine wO_val (a_pickT (by exact rfl) (by exact rfl)) ?_; refine wO_val (a_pickF (by exact rfl) (by exact rfl)) ?_; refine wO_nil ?_
          refine kR_k (by simp only [keepE, dstE, geT, paramsE, cond_true, cond_false, Nat.beq]; exact rfl) ?_; refine kS_n ?_; refine wE_false (by exact rfl) ?_; refine wE_skip ?_; refine kS_n ?_; exact TAIL
        · rw [bestR_no h4] at C4
          refine FW.pu C3 ?_
          refine wO_val (a_mov (by exact rfl)) ?_; refine wO_val (a_extract (by exact rfl) (by exact rfl)) ?_; refine wO_val (a_extract (by exact rfl) (by exact rfl)) ?_; refine wO_val (a_mov (by exact rfl)) ?_; refine wO_val (a_mov (by exact rfl)) ?_; refine wO_nil ?_; refine kR_k (by simp only [keepE, dstE, geT, paramsE, cond_true, cond_false, Nat.beq]; exact rfl) ?_; refine kS_n ?_; refine wE_seq ?_
          refine wE_region ?_; refine wO_val (a_loadN (by exact rfl) (by assumption) (by exact rfl) (by exact rfl)) ?_; refine wO_val (a_mov (by exact rfl)) ?_; refine wO_val (a_mov (by exact rfl)) ?_; refine wO_val (a_num (by exact rfl) (by exact rfl) (by exact m_add (wrapA_i64 (by omega) (by omega)))) ?_
          refine wO_call (a_call (by exact rfl) (by exact rfl) (by exact rfl) (by exact rfl)) ?_
          refine FW.pu C4 ?_
          refine wO_val (a_mov (by exact rfl)) ?_; refine wO_val (a_extract (by exact rfl) (by exact rfl)) ?_; refine wO_val (a_extract (by exact rfl) (by exact rfl)) ?_; refine wO_val (a_mov (by exact rfl)) ?_; refine wO_val (a_mov (by exact rfl)) ?_; refine wO_nil ?_; refine kR_k (by simp only [keepE, dstE, geT, paramsE, cond_true, cond_false, Nat.beq]; exact rfl) ?_; refine kS_n ?_; refine wE_seq ?_
          refine wE_seq ?_; refine wE_region ?_; refine wO_val (a_mov (by exact rfl)) ?_; refine wO_val (a_num (by exact rfl) (by exact rfl) (by exact m_eqlF (by omega))) ?_; refine wO_val (a_mov (by exact rfl)) ?_; refine wO_off (by exact rfl) (by exact rfl) ?_; refine wO_off (by exact rfl) (by exact rfl) ?_; refine wO_off (by exact rfl) (by exact rfl) ?_
          refine wO_val (a_pickF (by exact rfl) (by exact rfl)) ?_; refine wO_val (a_mov (by exact rfl)) ?_; refine wO_on (by exact rfl) ?_; refine wO_val (a_mov (by exact rfl)) ?_; refine wO_on (by exact rfl) ?_; refine wO_val (a_num (by exact rfl) (by exact rfl) (by exact m_eqlF (by omega))) ?_; refine wO_on (by exact rfl) ?_; refine wO_val (a_mov (by exact rfl)) ?_
          refine wO_off (by exact rfl) (by exact rfl) ?_; refine wO_off (by exact rfl) (by exact rfl) ?_; refine wO_off (by exact rfl) (by exact rfl) ?_; refine wO_on (by exact rfl) ?_; refine wO_val (a_pickF (by exact rfl) (by exact rfl)) ?_; refine wO_val (a_pickF (by exact rfl) (by exact rfl)) ?_; refine wO_nil ?_
          refine kR_k (by simp only [keepE, dstE, geT, paramsE, cond_true, cond_false, Nat.beq]; exact rfl) ?_; refine kS_n ?_; refine wE_false (by exact rfl) ?_; refine wE_skip ?_; refine kS_n ?_; exact TAIL
    · rw [bestR_no hA] at C1
      refine FW.pu C1 ?_
      refine wO_val (a_mov (by exact rfl)) ?_; refine wO_val (a_extract (by exact rfl) (by exact rfl)) ?_; refine wO_val (a_extract (by exact rfl) (by exact rfl)) ?_; refine wO_val (a_mov (by exact rfl)) ?_; refine wO_val (a_mov (by exact rfl)) ?_; refine wO_nil ?_; refine kR_k (by simp only [keepE, dstE, geT, paramsE, cond_true, cond_false, Nat.beq]; exact rfl) ?_; refine kS_n ?_; refine wE_seq ?_
      refine wE_region ?_; refine wO_val (a_loadN (by exact rfl) (by (simp (disch := first | omega | (simp only [z1, z2]; omega)) only [z3, z4, z5, z6, z7, z1, z2, *]; exact rfl)) (by exact rfl) (by exact rfl)) ?_
      refine wO_call (a_call (by exact rfl) (by exact rfl) (by exact rfl) (by exact rfl)) ?_
      refine FW.al (al_mono (turned39 F.toFnsH (.of (hx.wf hr.wf)) ((hs.ext hx).log []) kerf hn) fun v h' q => orErr_saw2 q) (fun v h' m q => SawQ.log v h' m q) ?_
      rintro _ h2 hx2 ⟨s2, rfl, q2⟩
      obtain ⟨a2, c2, rfl⟩ := q2.form
      have hx12 := hx.trans hx2
      have k1 : h.next < h2.next := hx2.next
      refine wO_val (a_mov (by exact rfl)) ?_; refine wO_val (a_extract (by exact rfl) (by exact rfl)) ?_; refine wO_val (a_extract (by exact rfl) (by exact rfl)) ?_; refine wO_val a_new ?_
      refine wO_val (a_store (by exact rfl) (by exact rfl) (by (simp (disch := first | omega | (simp only [z1, z2]; omega)) only [z3, z4, z5, z6, z7, z1, z2, *]; exact rfl)) (by exact rfl) (by exact rfl)) ?_; refine wO_val (a_mov (by exact rfl)) ?_; refine wO_nil ?_
      refine kR_k (by simp only [keepE, dstE, geT, paramsE, cond_true, cond_false, Nat.beq]; exact rfl) ?_; refine kS_n ?_; refine wE_seq ?_; refine wE_seq ?_; refine wE_region ?_; refine wO_val (a_mov (by exact rfl)) ?_; refine wO_val (a_num (by exact rfl) (by exact rfl) (by exact m_neqT (by omega))) ?_; refine wO_val (a_mov (by exact rfl)) ?_; refine wO_off (by exact rfl) (by exact rfl) ?_
      refine wO_off (by exact rfl) (by exact rfl) ?_; refine wO_val (a_pickT (by exact rfl) (by exact rfl)) ?_; refine wO_nil ?_; refine kR_k (by simp only [keepE, dstE, geT, paramsE, cond_true, cond_false, Nat.beq]; exact rfl) ?_; refine kS_n ?_; refine wE_true (by exact rfl) ?_; refine wE_seq ?_; refine wE_region ?_
      refine wO_call (a_call (by exact rfl) (by exact rfl) (by exact rfl) (by exact rfl)) ?_
      refine FW.pu (F.c19 (.of (((hx12.wf hr.wf).push _).as (AS.wr _ _ _ _)))) ?_
      refine wO_val (a_mov (by exact rfl)) ?_; refine wO_nil ?_; refine kR_k (by simp only [keepE, dstE, geT, paramsE, cond_true, cond_false, Nat.beq]; exact rfl) ?_; refine kS_n ?_; refine wE_ret ?_; refine kS_r ?_
      exact endP_ret ((Heap.log_wr_new (by omega)).trans (hx12.log.trans hr.log)) rfl rfl
  · rw [decide_eq_false hfew]
    refine wO_val (a_not (by exact rfl)) ?_; refine wO_nil ?_; refine kR_k (by simp only [keepE, dstE, geT, paramsE, cond_true, cond_false, Nat.beq]; exact rfl) ?_; refine kS_n ?_; refine wE_true (by exact rfl) ?_; refine wE_seq ?_; refine wE_region ?_
    refine wO_call (a_call (by exact rfl) (by exact rfl) (by exact rfl) (by exact rfl)) ?_
    refine FW.pu (F.c19 (.of (hx.wf hr.wf))) ?_
    refine wO_val (a_mov (by exact rfl)) ?_; refine wO_nil ?_; refine kR_k (by simp only [keepE, dstE, geT, paramsE, cond_true, cond_false, Nat.beq]; exact rfl) ?_; refine kS_n ?_; refine wE_ret ?_; refine kS_r ?_
    exact endP_ret hr.log rfl rfl
end Go.A.Pk
end
