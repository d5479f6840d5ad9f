/- Walks of functions, plain laws, the table. -/
import Derived.Test.YtgffeapobcfigaaGreatDoorMU0
import Derived.Test.YtgffeapobcfigaaGreatDoorMD
import Derived.Sort.Row
import Derived.Sort.Grow
import Derived.Test.YtgffeapobcfigaaGreatDoorMF
import Derived.Carry
import Derived.Lib.SmallJoins
import Derived.Deep.Slices
import Derived.Deep.Fields
import Derived.Test.YtgffeapobcfigaaGreatDoorMH
import Derived.SizedLaws
import Derived.KernelRfl
import Derived.Lib.LaidTab
import Derived.Test.YtgffeapobcfigaaGreatDoorMT
set_option linter.all false
section
set_option maxRecDepth 100000
namespace Go.A.Pk
variable {T : Nat → Option AFunc}
def ints (l : List Int) : List Value := l.map fun x => .int .i64 x
theorem ints_app (a b : List Int) : ints (a ++ b) = ints a ++ ints b := by simp [ints]
def havQ (k : Nat) (c : Ce) (r : Rd) : Bool := (decide (k = 0) || decide (r.kind = k)) && sHas r.cells c
def havR (k : Nat) (c : Ce) (l : List Rd) : List Int := (l.filter (havQ k c)).map (·.id)
theorem havR_step {k : Nat} {c : Ce} {l : List Rd} {i : Nat} {r : Rd} (hi : l[i]? = some r) : havR k c (l.take (i + 1)) = havR k c (l.take i) ++ (if havQ k c r then [r.id] else []) := by
  unfold havR
  rw [take_at hi, List.map_append]
  cases havQ k c r <;> rfl
structure FnsHv (T : Nat → Option AFunc) : Prop where
  h : FnsH T
  f125 : T 125 = some f125
theorem havR_le {k : Nat} {c : Ce} {l : List Rd} : (havR k c l).length ≤ l.length := by
  unfold havR
  rw [List.length_map]; exact List.length_filter_le ..
set_option maxHeartbeats 8000000 in
theorem having125 (F : FnsHv T) {h : Heap} (hr : Rdy h) {a : Option Addr} {n c : Nat} {l : List Rd} (s : RdS h (.slice a n c) l) (hn : n < 1000000) {k : Nat} (hk : k < 256) (ce : Ce) :
    Al T 125 [.slice a n c, .int .u8 (k : Nat), ceV ce] h fun v h' => Own h.next h' 1 v (havR k ce l).length (ints (havR k ce l)) := by
  refine .of F.h.p F.f125 hr ?_ ?_
  · intro v h1 hv q
    generalize (havR k ce l).length = m at q ⊢
    generalize ints (havR k ce l) = cs at q ⊢
    cases q with
    | nil => exact .nil
    | full => cases hv
  obtain rfl := s.len
  have g0 : (h.push (.cells (cellsOf (ceV ce)) true 1)).get h.next = some (.cells (cellsOf (ceV ce)) true 1) := z3 h _
  have x0 : Ext h (h.push (.cells (cellsOf (ceV ce)) true 1)) := (Ext.refl h).push _
  have n0 : (h.push (.cells (cellsOf (ceV ce)) true 1)).next = h.next + 1 := rfl
  refine y4 ?_; refine yB ?_; refine yM ?_; refine y3 ?_
  generalize (h.push (.cells (cellsOf (ceV ce)) true 1)) = H at *
  refine y4 ?_; refine yM ?_; refine y3 ?_; refine wE_seq ?_; refine y4 ?_; refine yM ?_; refine yD ?_; refine yM ?_
  refine y3 ?_; refine wE_block ?_
  refine wE_loop (fun m e ds h' => ∃ (i : Nat) (v : Value), i ≤ l.length ∧ m = l.length - i ∧ e = [(1, .int .u8 (k : Nat)), (5, .pointer (some ⟨h.next, 0, none⟩)), (7, v), (10, .slice a l.length c), (11, .int .i64 (l.length : Nat)), (12, .int .i64 (i : Nat))] ∧ ds = [] ∧ Ext h h' ∧ h.next < h'.next ∧ h'.get h.next = some (.cells (ceL ce) true 1) ∧ Own (h.next + 1) h' 1 v (havR k ce (l.take i)).length (ints (havR k ce (l.take i))))
    ⟨0, _, Nat.zero_le _, rfl, rfl, rfl, x0, by omega, g0, .nil⟩ ?_
  rintro m e ds H1 ⟨i, v, hin, rfl, rfl, rfl, x1, n1, g1, ow⟩
  have W1 := x1.wf hr.wf
  have hL1 := x1.log.trans hr.log
  by_cases hlt : i < l.length
  · obtain ⟨r, hri⟩ : ∃ r, l[i]? = some r := ⟨l[i], List.getElem?_eq_getElem hlt⟩
    have hR := s.ok r (List.mem_of_getElem? hri)
    obtain ⟨b, o, vs, own, t, rfl, e1, e2, hbb, _⟩ := (s.ext x1).elem hri
    have k1 := e2.all
    have k2 := rdL_llen hR
    have rl2 := rdL_length hR
    have ro := rdL_ones r
    have ral := rdL_all hR
    have rc := rdL_cells hR
    have rk8 := us_llen hR.cells.len
    have ck : ltake 3 (ldrop 0 (ceL ce)) = ceL ce := rfl
    have ckl : Nat.beq (llen (ceL ce)) 3 = true := rfl
    have hst := havR_step (k := k) (c := ce) hri
    have hle : (havR k ce (l.take i)).length < 1000000 := Nat.lt_of_le_of_lt havR_le (by rw [List.length_take]; omega)
    have m1 : numOp .eql (.int .u8 (k : Nat)) (.int .u8 0) = _ := m_eqI (c := 0) rfl
    have m2 : numOp .eql (.int .u8 (r.kind : Nat)) (.int .u8 (k : Nat)) = _ := m_eqI (c := k) rfl
    have x2 := ext_pw (h := H1) (base := h.next) (by omega) (.cells zR true 1) (.cells (rdL r) true 1)
    have q2 := get_pw (h := H1) (base := h.next) zR (rdL r)
    have n2 : ((H1.push (.cells zR true 1)).wr h.next H1.next (.cells (rdL r) true 1)).next = H1.next + 1 := rfl
    refine y4 ?_; refine yt ?_; refine y3 ?_; refine wE_seq ?_; refine yY ?_; refine wE_skip ?_; refine kS_n ?_; refine wE_seq ?_; refine wE_block ?_; refine y4 ?_; refine wO_val (a_iaddrS (by exact rfl) (by exact rfl) (by omega)) ?_; refine wO_val (a_loadN (by exact rfl) (by assumption) (by assumption) (by assumption)) ?_; refine wO_val (a_new) ?_
    refine wO_val (a_storeAll (by exact rfl) (by exact rfl) (by (simp (disch := first | omega | (simp only [z1, z2]; omega)) only [z3, z4, z5, z6, z7, z1, z2, g0, g1, e1, q2]; exact rfl)) (by assumption) (by exact rfl) (by assumption)) ?_; refine y3 ?_
    unfold zR at *
    generalize ((H1.push (.cells _ true 1)).wr h.next H1.next (.cells (rdL r) true 1)) = H2 at *
    have W2 := x2.wf W1
    have hL2 := x2.log.trans hL1
    have g2 := (x2.old _ n1).trans g1
    have ow2 := ow.ext x2
    have C := has38 F.h (.of W2) hR.cells ce
    have ey0 := x1.trans x2
    unfold havQ at hst
    generalize decide (k = 0) = d1 at *
    generalize decide (r.kind = k) = d2 at *
    clear g1 ow e1
    generalize hb : sHas r.cells ce = b3 at *
    refine wE_cutE (E := [(1, .int .u8 (k : Nat)), (5, .pointer (some ⟨h.next, 0, none⟩)), (7, v), (9, .pointer (some ⟨H1.next, 0, none⟩)), (10, .slice (some ⟨b, o, none⟩) l.length c), (11, .int .i64 (l.length : Nat)), (12, .int .i64 (i : Nat)), (29, .bool ((d1 || d2) && b3))]) (H := H2) ?_ ?_
    · cases d1 with
      | true =>
        refine wE_region ?_; refine yM ?_; refine wO_val (a_num (by exact rfl) (by exact rfl) (by with_reducible assumption)) ?_; refine yM ?_; refine yP ?_; refine yP ?_; refine yP ?_; refine yP ?_
        refine yT ?_; refine yM ?_; refine yO ?_; refine yF ?_; refine yO ?_; refine wO_val (a_loadN (by exact rfl) (by assumption) (by assumption) (by assumption)) ?_; refine yO ?_
        refine yN ?_; refine yO ?_
        refine yC ?_
        refine FW.pu C ?_
        refine yT ?_; refine wO_nil ?_; refine y1 ?_
        exact ⟨rfl, rfl, rfl, rfl⟩
      | false =>
        cases d2 with
        | true =>
          refine wE_region ?_; refine yM ?_; refine wO_val (a_num (by exact rfl) (by exact rfl) (by with_reducible assumption)) ?_; refine yM ?_; refine yO ?_; refine yF ?_; refine yO ?_; refine yL ?_; refine yO ?_
          refine yM ?_; refine yO ?_; refine wO_val (a_num (by exact rfl) (by exact rfl) (by with_reducible assumption)) ?_; refine yU ?_; refine yM ?_; refine yO ?_; refine yF ?_; refine yO ?_
          refine wO_val (a_loadN (by exact rfl) (by assumption) (by assumption) (by assumption)) ?_; refine yO ?_; refine yN ?_; refine yO ?_
          refine yC ?_
          refine FW.pu C ?_
          refine yT ?_; refine wO_nil ?_; refine y1 ?_
          exact ⟨rfl, rfl, rfl, rfl⟩
        | false =>
          refine wE_region ?_; refine yM ?_; refine wO_val (a_num (by exact rfl) (by exact rfl) (by with_reducible assumption)) ?_; refine yM ?_; refine yO ?_; refine yF ?_; refine yO ?_; refine yL ?_; refine yO ?_
          refine yM ?_; refine yO ?_; refine wO_val (a_num (by exact rfl) (by exact rfl) (by with_reducible assumption)) ?_; refine yU ?_; refine yM ?_; refine yP ?_; refine yP ?_; refine yP ?_
          refine yP ?_; refine yU ?_; refine wO_nil ?_; refine y1 ?_
          exact ⟨rfl, rfl, rfl, rfl⟩
    clear C m1 m2
    generalize ((d1 || d2) && b3) = d at *
    cases d with
    | false =>
      refine yX ?_; refine wE_skip ?_; refine kB_n ?_; refine kS_n ?_; refine wE_region ?_; refine yinc ?_; refine yM ?_; refine y3 ?_
      refine ⟨l.length - (i + 1), by omega, i + 1, v, by omega, rfl, rfl, rfl, ey0, by omega, g2, ?_⟩
      rw [hst, if_neg (by simp), List.append_nil]; exact ow2
    | true =>
      refine yY ?_; refine wE_region ?_; refine yM ?_; refine yF ?_; refine yL ?_; refine wO_val (a_bslice (by exact rfl) (by exact rfl)) ?_
      refine wO_app1 (lo := h.next + 1) (sz := 1) (v := v) (c1 := [.int .i64 r.id]) (ow2.ext ((Ext.refl H2).push _)) hle (by omega) (by omega) (by show h.next + 1 ≤ H2.next + 1; omega) (by omega) (by exact rfl) (by exact rfl) (src_slice (cs := [.int .i64 r.id]) (by (simp (disch := first | omega | (simp only [z1, z2]; omega)) only [z3, z4, z5, z6, z7, z1, z2, g0, q2, g2]; exact rfl)) rfl rfl) rfl rfl ?_
      intro v' h3 o3 x3
      have ey3' : Lx (h.next + 1) H2 h3 := ((Lx.refl (h.next + 1) H2).push (by omega) _).trans x3
      have n3 := ey3'.next
      refine yM ?_; refine wO_nil ?_; refine y1 ?_; refine kB_n ?_; refine kS_n ?_; refine wE_region ?_; refine yinc ?_; refine yM ?_; refine y3 ?_
      refine ⟨l.length - (i + 1), by omega, i + 1, v', by omega, rfl, rfl, rfl, ⟨Nat.le_trans ey0.next n3, ey3'.log.trans ey0.log, fun b hb => (ey3'.old b (by omega)).trans (ey0.old b hb), fun w => ey3'.wf (ey0.wf w)⟩, by omega, (ey3'.old _ (by omega)).trans g2, ?_⟩
      rw [hst, if_pos rfl, List.length_append, ints_app]; exact o3
  · obtain rfl : i = l.length := by omega
    rw [List.take_length] at ow
    refine y4 ?_; refine yf ?_; refine y3 ?_; refine wE_seq ?_; refine yX ?_; refine wE_exit ?_; refine kS_e ?_; refine kS_e ?_; refine kB_e ?_; refine kS_n ?_
    refine y4 ?_; refine yM ?_; refine yM ?_; refine y3 ?_; refine wE_ret ?_
    exact endA_ret hL1 rfl (ow.low (Nat.le_succ _))
end Go.A.Pk
end
section
set_option maxRecDepth 100000
namespace Go.A.Pk
variable {T : Nat → Option AFunc}
abbrev InS (h : Heap) (v : Value) (l : List Int) : Prop := SliceOf h 1 v l.length (ints l)
theorem InS.elem {h : Heap} {a : Option Addr} {n c : Nat} {l : List Int} (s : InS h (.slice a n c) l) {i : Nat} {x : Int} (hi : l[i]? = some x) :
    ∃ b o vs own t, a = some ⟨b, o, none⟩ ∧ h.get b = some (.cells vs own t) ∧ lget vs (o + i * 1) = some (.int .i64 x) := by
  have hlt := (List.getElem?_eq_some_iff.1 hi).1
  rcases SliceOf.inv s with ⟨_, _, h0, _⟩ | ⟨b, o, cap, hv, s1, hc⟩
  · omega
  · cases hv
    obtain ⟨vs, own, t, g1, g2⟩ := s1.obj
    refine ⟨b, o, vs, own, t, rfl, g1, ?_⟩
    rw [lget_eq]
    have e : (ints l)[i]? = some (.int .i64 x) := by simp [ints, hi]
    rw [← g2, ltake_eq, ldrop_eq, List.getElem?_take_of_lt (by omega), List.getElem?_drop] at e
    rw [Nat.mul_one]; exact e
theorem InS.len {h : Heap} {a : Option Addr} {n c : Nat} {l : List Int} (s : InS h (.slice a n c) l) : n = l.length := by
  rcases SliceOf.inv s with ⟨_, hv, h0, _⟩ | ⟨b, o, cap, hv, s1, hc⟩
  · cases hv; exact h0.symm
  · cases hv; rfl
end Go.A.Pk
end
section
set_option maxRecDepth 100000
namespace Go.A.Pk
variable {T : Nat → Option AFunc}
def ceN (n : Nat) : Ce := ⟨(n % 8 : Nat), (n / 8 % 8 : Nat), (n / 64 : Nat)⟩
def ceS (l : List Ce) : List Value := l.flatMap ceL
theorem ceS_app (a b : List Ce) : ceS (a ++ b) = ceS a ++ ceS b := by simp [ceS]
def cellsTo (s : List Nat) (n : Nat) : List Ce := ((List.range n).map ceN).filter (sHas s)
theorem cellsTo_step (s : List Nat) (n : Nat) : cellsTo s (n + 1) = cellsTo s n ++ (if sHas s (ceN n) then [ceN n] else []) := by
  unfold cellsTo
  rw [List.range_succ, List.map_append, List.filter_append]
  congr 1
  simp only [List.map_cons, List.map_nil, List.filter_cons, List.filter_nil]
theorem cellsTo_le (s : List Nat) (n : Nat) : (cellsTo s n).length ≤ n := by
  unfold cellsTo
  exact Nat.le_trans (List.length_filter_le ..) (by simp)
end Go.A.Pk
end
section
set_option maxRecDepth 100000
namespace Go.A.Pk
def planeC (s : List Nat) (z : Nat) : List Ce := (bitsOf (s.getD z 0)).map (ceOf z)
theorem ceN_of {z i : Nat} (hi : i < 64) : ceN (z * 64 + i) = ceOf z i := by
  unfold ceN ceOf
  rw [show (z * 64 + i) % 8 = i % 8 by omega, show (z * 64 + i) / 8 % 8 = i / 8 by omega, show (z * 64 + i) / 64 = z by omega]
theorem cellsTo_plane (s : List Nat) {z : Nat} (hz : z < 8) : cellsTo s ((z + 1) * 64) = cellsTo s (z * 64) ++ planeC s z := by
  unfold cellsTo planeC bitsOf
  rw [show (z + 1) * 64 = z * 64 + 64 by omega, List.range_add, List.map_append, List.filter_append]
  congr 1
  rw [List.map_map, List.filter_map]
  have e1 : (List.range 64).filter (sHas s ∘ (ceN ∘ fun x => z * 64 + x)) = (List.range 64).filter (Nat.testBit (s.getD z 0)) := by
    apply List.filter_congr
    intro i hi
    have hi := List.mem_range.1 hi
    show sHas s (ceN (z * 64 + i)) = _
    rw [ceN_of hi, sHas_of hz hi]
  rw [e1]
  apply List.map_congr_left
  intro i hi
  have hi := List.mem_range.1 (List.mem_filter.1 hi).1
  exact ceN_of hi
end Go.A.Pk
end
section
set_option maxRecDepth 100000
namespace Go.A.Pk
theorem getD_zip {f : Nat → Nat → Nat} {a b : List Nat} (ha : IsS a) (hb : IsS b) {z : Nat} (hz : z < 8) : (List.zipWith f a b).getD z 0 = f (a.getD z 0) (b.getD z 0) := by
  have e1 := getD_at (s := a) (i := z) (by rw [ha.len]; exact hz)
  have e2 := getD_at (s := b) (i := z) (by rw [hb.len]; exact hz)
  rw [List.getD_eq_getElem?_getD, List.getElem?_zipWith, e1, e2]; rfl
theorem sHas_out {s : List Nat} {c : Ce} (hc : ¬ inG c = true) : sHas s c = false := by
  unfold sHas
  rw [Bool.not_eq_true] at hc
  rw [hc]; rfl
theorem sHas_join {a b : List Nat} (ha : IsS a) (hb : IsS b) (c : Ce) : sHas (sJoin a b) c = (sHas a c || sHas b c) := by
  by_cases hc : inG c = true
  · obtain ⟨z, i, hz, hi, rfl⟩ := inG_form hc
    rw [sHas_of hz hi, sHas_of hz hi, sHas_of hz hi]
    unfold sJoin sMap
    rw [getD_zip ha hb hz]
    exact Nat.testBit_or ..
  · rw [sHas_out hc, sHas_out hc, sHas_out hc]; rfl
theorem sHas_less {a b : List Nat} (ha : IsS a) (hb : IsS b) (c : Ce) : sHas (sLess a b) c = (sHas a c && !sHas b c) := by
  by_cases hc : inG c = true
  · obtain ⟨z, i, hz, hi, rfl⟩ := inG_form hc
    rw [sHas_of hz hi, sHas_of hz hi, sHas_of hz hi]
    unfold sLess sMap
    rw [getD_zip ha hb hz]
    simp only [aNot]
    show Nat.testBit (a.getD z 0 ^^^ (a.getD z 0 &&& b.getD z 0)) i = _
    rw [Nat.testBit_xor, Nat.testBit_and]
    cases (a.getD z 0).testBit i <;> cases (b.getD z 0).testBit i <;> rfl
  · rw [sHas_out hc, sHas_out hc]; rfl
theorem sHas_s0 (c : Ce) : sHas s0 c = false := by
  by_cases hc : inG c = true
  · obtain ⟨z, i, hz, hi, rfl⟩ := inG_form hc
    rw [sHas_of hz hi]
    have : ∀ z : Fin 8, s0.getD z.val 0 = 0 := by decide
    rw [this ⟨z, hz⟩]
    exact Nat.zero_testBit i
  · exact sHas_out hc
theorem fold_has (c : Ce) : ∀ (l : List Rd) (w : List Nat × List Nat), IsW w → (∀ r ∈ l, IsR r) →
    sHas (l.foldl seeR w).1 c = (sHas w.1 c || l.any fun r => decide (r.kind = 1) && sHas r.cells c) ∧
    sHas (l.foldl seeR w).2 c = (sHas w.2 c && !l.any fun r => !decide (r.kind = 1) && sHas r.cells c)
  | [], w, _, _ => ⟨by simp, by simp⟩
  | r :: l, w, hw, hl => by
    have hr := hl r List.mem_cons_self
    obtain ⟨e1, e2⟩ := fold_has c l (seeR w r) (hw.see hr) fun x hx => hl x (List.mem_cons_of_mem _ hx)
    rw [List.foldl_cons, e1, e2, List.any_cons, List.any_cons]
    unfold seeR
    by_cases hk : r.kind = 1
    · rw [if_pos hk, decide_eq_true hk]
      dsimp only
      rw [sHas_join hw.a hr.cells]
      constructor
      · cases sHas w.1 c <;> cases sHas r.cells c <;> rfl
      · cases sHas w.2 c <;> rfl
    · rw [if_neg hk, decide_eq_false hk]
      dsimp only
      rw [sHas_less hw.b hr.cells]
      constructor
      · cases sHas w.1 c <;> rfl
      · cases sHas w.2 c <;> cases sHas r.cells c <;> rfl
theorem seen_has {bl : List Nat} (hb : IsS bl) {l : List Rd} (hl : ∀ r ∈ l, IsR r) (c : Ce) :
    sHas (seenW bl l).1 c = (l.any fun r => decide (r.kind = 1) && sHas r.cells c) ∧
    sHas (seenW bl l).2 c = (sHas bl c && !l.any fun r => !decide (r.kind = 1) && sHas r.cells c) := by
  obtain ⟨e1, e2⟩ := fold_has c l (s0, bl) ⟨s0_ok, hb⟩ hl
  refine ⟨e1.trans ?_, e2⟩
  rw [sHas_s0]; rfl
theorem mem_cells {s : List Nat} {n : Nat} {c : Ce} (h : c ∈ cellsTo s n) : sHas s c = true := (List.mem_filter.1 h).2
theorem refR_ck {l : List Rd} {r : Rd} (h : refR l r = 0) : ckOk r = true := by
  unfold refR at h
  split at h
  · cases h
  · split at h
    · cases h
    · rename_i _ h2
      unfold ckR at h2
      cases hk : ckOk r with
      | true => rfl
      | false => rw [hk] at h2; simp at h2
theorem chkF_all {l : List Rd} : ∀ m i, i + m = l.length → (chkF refR l m i).2 = 0 → ∀ j r, i ≤ j → l[j]? = some r → refR (l.take j) r = 0
  | 0, i, hi, _, j, r, hj, hr => by
    have := (List.getElem?_eq_some_iff.1 hr).1
    omega
  | m + 1, i, hi, h, j, r, hj, hr => by
    have hlt : i < l.length := by omega
    have e3 : l[i]? = some l[i] := List.getElem?_eq_getElem hlt
    rw [chkF, e3] at h
    dsimp only at h
    by_cases hz : refR (l.take i) l[i] = 0
    · rw [if_neg (fun q => q hz)] at h
      rcases Nat.lt_or_ge i j with hij | hij
      · exact chkF_all m (i + 1) (by omega) h j r hij hr
      · obtain rfl : i = j := by omega
        rw [e3] at hr; cases hr; exact hz
    · rw [if_pos hz] at h
      exact (hz h).elim
theorem chk_all {l : List Rd} (h : (chkR refR l).2 = 0) {j : Nat} {r : Rd} (hr : l[j]? = some r) : refR (l.take j) r = 0 :=
  chkF_all l.length 0 (by omega) h j r (Nat.zero_le _) hr
theorem chk_kind {l : List Rd} (h : (chkR refR l).2 = 0) {r : Rd} (hr : r ∈ l) : r.kind = 1 ∨ r.kind = 2 ∨ r.kind = 3 := by
  obtain ⟨j, hj⟩ := List.getElem?_of_mem hr
  have := refR_ck (chk_all h hj)
  unfold ckOk at this
  by_cases h1 : r.kind = 1
  · exact .inl h1
  · by_cases h2 : r.kind = 2
    · exact .inr (.inl h2)
    · by_cases h3 : r.kind = 3
      · exact .inr (.inr h3)
      · simp [h1, h2, h3] at this
def firstI (k : Nat) (c : Ce) (l : List Rd) : Int := (havR k c l).headD 0
theorem havR_ne {k : Nat} {c : Ce} {l : List Rd} {r : Rd} (hr : r ∈ l) (hq : havQ k c r = true) : ∃ y, havR k c l = firstI k c l :: y := by
  unfold firstI
  cases h : havR k c l with
  | cons x y => exact ⟨y, rfl⟩
  | nil =>
    unfold havR at h
    rw [List.map_eq_nil_iff, List.filter_eq_nil_iff] at h
    exact absurd hq (h r hr)
structure Dou where
  c : Ce
  ids : List Int
  is : Bool
  e : Int
def c0 : Ce := ⟨0, 0, 0⟩
def inDoubt (bl : List Nat) (r : List Rd) : List Ce := cellsTo (sLess (seenW bl r).1 (seenW bl r).2) 512
def douI (bl : List Nat) (r : List Rd) (c : Ce) : List Int := firstI 1 c r :: if sHas bl c then [firstI 2 c r] else []
def douS (bl : List Nat) (r : List Rd) : List Ce → Dou
  | [] => ⟨c0, [], false, 0⟩
  | c :: _ => ⟨c, douI bl r c, true, 0⟩
def douR (bl : List Nat) (l : List Rd) (day : Int) : Dou :=
  if (chkR refR l).2 ≠ 0 then ⟨c0, [], false, (chkR refR l).2⟩ else douS bl (cntR day l) (inDoubt bl (cntR day l))
theorem dou_seen {bl : List Nat} (hb : IsS bl) {r : List Rd} (hl : ∀ x ∈ r, IsR x) {c : Ce} (hc : c ∈ inDoubt bl r) : ∃ y, havR 1 c r = firstI 1 c r :: y := by
  have hw := seenW_ok hb hl
  have h := mem_cells hc
  rw [sHas_less hw.a hw.b, (seen_has hb hl c).1, Bool.and_eq_true, List.any_eq_true] at h
  obtain ⟨⟨x, hx, q⟩, _⟩ := h
  rw [Bool.and_eq_true] at q
  exact havR_ne hx (by unfold havQ; rw [q.1, q.2]; rfl)
theorem dou_bare {bl : List Nat} (hb : IsS bl) {r : List Rd} (hl : ∀ x ∈ r, IsR x) (hk : ∀ x ∈ r, x.kind = 1 ∨ x.kind = 2) {c : Ce} (hc : c ∈ inDoubt bl r) (hs : sHas bl c = true) : ∃ y, havR 2 c r = firstI 2 c r :: y := by
  have hw := seenW_ok hb hl
  have h := mem_cells hc
  rw [sHas_less hw.a hw.b, (seen_has hb hl c).2, hs, Bool.and_eq_true] at h
  obtain ⟨_, h⟩ := h
  rw [Bool.true_and, Bool.not_not, List.any_eq_true] at h
  obtain ⟨x, hx, q⟩ := h
  rw [Bool.and_eq_true] at q
  have h2 : x.kind = 2 := by
    rcases hk x hx with h1 | h2
    · rw [decide_eq_true h1] at q; cases q.1
    · exact h2
  exact havR_ne hx (by unfold havQ; rw [decide_eq_true h2, q.2]; rfl)
theorem cnt_kind {l : List Rd} (h : (chkR refR l).2 = 0) {day : Int} {x : Rd} (hx : x ∈ cntR day l) : x.kind = 1 ∨ x.kind = 2 := by
  obtain ⟨hm, hq⟩ := List.mem_filter.1 hx
  rcases chk_kind h hm with h1 | h1 | h1
  · exact .inl h1
  · exact .inr h1
  · unfold cntQ at hq
    simp [h1] at hq
theorem inDoubt_lt {bl : List Nat} {r : List Rd} : (inDoubt bl r).length ≤ 512 := cellsTo_le _ _
def DouQ (p : Dou) (v : Value) (h : Heap) : Prop := ∃ u, v = .tuple #[ceV p.c, u, .bool p.is, .int .i64 p.e] ∧ InS h u p.ids
theorem DouQ.flat {p : Dou} {v : Value} {h h' : Heap} (hv : noRef v = true) (q : DouQ p v h) : DouQ p v h' := by
  obtain ⟨u, rfl, s⟩ := q
  refine ⟨u, rfl, ?_⟩
  rcases SliceOf.inv s with ⟨c', rfl, h0, e1⟩ | ⟨b, o, cap', rfl, s1, hc⟩
  · show SliceOf _ _ _ _ _
    rw [h0, e1]; exact .nil
  · simp [noRef, flatL, scalL, ceV, flat] at hv
    cases hv.2.1
theorem InS.nil {h : Heap} {c : Nat} : InS h (.slice none 0 c) [] := SliceOf.nil
theorem DouQ.none {h : Heap} (p : Dou) (hi : p.ids = []) {c : Nat} : DouQ p (.tuple #[ceV p.c, .slice none 0 c, .bool p.is, .int .i64 p.e]) h := ⟨_, rfl, by rw [hi]; exact .nil⟩
end Go.A.Pk
end
section
set_option maxRecDepth 100000
namespace Go.A.Pk
variable {T : Nat → Option AFunc}
section
open I
def asg264 : ACode := I.R [g 5 (.new [O, O, O]), S 3 5 7] [2, 5]
def bod264 : ACode := .block 1 (I.R [L 8 2, N 9 3 5, g 10 (.bslice [O, O, O] 1 [(0, 3, (t 9))]), g 11 (.append 3 24 (t 8) (t 10)), S 1 2 11] [])
end
theorem WE.genC {base : Nat} {rnd : Option Nat} {c : ACode} {Q : XQ} {e : Env} {ds : Dfs} {h : Heap} (hK : ∀ hA, hA = h → WE T base rnd c Q e ds hA) : WE T base rnd c Q e ds h := hK h rfl
theorem wO_app1w {base : Nat} {rnd : Option Nat} {Q : XQ} {e : Env} {ds : Dfs} {h : Heap} {lo sz bytes n : Nat} {dst : Option Nat} {os : List AOper} {x y : Operand} {v u : Value} {cs c1 : List Value} (s : Own lo h sz v n cs) (hn : n < 1000000) (hsz : 0 < sz) (hb : bytes ≤ 100000)
    (hx : ev h e x = some v) (hy : ev h e y = some u) (hs : srcCells h sz u = some (c1, 1)) (hl1 : c1.length = sz) (h1 : ones c1 = true)
    (hK : ∀ h', Own h.next h' sz (.slice (some ⟨h.next, 0, none⟩) (n + 1) UNK) (n + 1) (cs ++ c1) → h'.next = h.next + 1 → (∀ z ∈ h'.log, lo ≤ z ∨ z ∈ h.log) → (WF h → WF h') → (∀ z, z < h.next → z < lo → h'.get z = h.get z) → WO T base rnd Q os (dstE e dst (.slice (some ⟨h.next, 0, none⟩) (n + 1) UNK)) ds h') : WO T base rnd Q (⟨dst, .append sz bytes x y, none⟩ :: os) e ds h := by
  have hbd : (2 * (n + 1) + 768) * bytes ≤ 281474976710656 := by
    have : (2 * (n + 1) + 768) * bytes ≤ 2000768 * 100000 := Nat.mul_le_mul (by omega) hb
    omega
  cases s with
  | nil =>
    refine wO_val (a_app_nil (n := 1) hx hy hs (by omega) (by simpa using hbd) rfl) ?_
    exact hK _ (Own.full (lo := h.next) (h := h.push (.cells c1 true sz)) (sz := sz) (q := h.next) (n := 1) (cs := c1) (Nat.le_refl _) (Nat.lt_succ_self _) (z3 _ _) (by omega) (by omega)) rfl (fun z hz => .inr hz) (fun w => w.push _) (fun z hz _ => z4 hz)
  | @full q _ _ q1 q2 q3 q4 q5 =>
    refine wO_val (a_app_open (n := 1) (vs := cs) (ws := cs ++ c1) hx hy hs (by omega) q3 q4 hsz h1 hbd (lcat_eq _ _)) ?_
    exact hK _ (.full (Nat.le_refl _) (Nat.lt_succ_self _) (z3 _ _) (by rw [List.length_append, q4, hl1, Nat.add_mul, Nat.one_mul]) (by omega)) rfl (fun z hz => by
      rcases wr_log_old (b := q) (o := .dead) hz with rfl | hz
      · exact .inl q1
      · exact .inr hz) (fun w => (w.as (AS.wr base _ q .dead)).push _) (fun z hz hne => (z4 (by exact hz)).trans (z5 (by omega)))
set_option maxHeartbeats 8000000 in
theorem cell_round (hp : primAS T) {H : Heap} (hr : Rdy H) {q l lo lo2 : Nat} {fv v : Value} {cs : List Ce} {c : Ce} (hm : cs.length < 1000000) (hlo : lo ≤ q)
    (gl : H.get l = some (.loop [(2, .pointer (some ⟨q, 0, none⟩)), (6, fv)] [7] asg264 bod264 0 .normal))
    (go : H.get q = some (.cells [v] true 1)) (own : Own lo2 H 3 v cs.length (ceS cs)) (hlo2 : lo ≤ lo2) (hq2 : q < lo2) (hl2 : l < lo2) (h2n : lo2 ≤ H.next) :
    FW T (.yield l) [ceV c] H fun r H' => r = .ret (.bool true) ∧ (∀ z ∈ H'.log, lo ≤ z) ∧ q ∈ H'.log ∧ ∃ v', H'.get q = some (.cells [v'] true 1) ∧ scalL [v'] = false ∧ Own lo2 H' 3 v' (cs ++ [c]).length (ceS (cs ++ [c])) ∧ (∀ z, z < lo2 → z ≠ q → H'.get z = H.get z) ∧ WF H' ∧ H.next ≤ H'.next := by
  have no : q ≠ l := fun e => by subst e; rw [go] at gl; cases gl
  have ko := hr.wf.get_lt go
  have kl := hr.wf.get_lt gl
  refine FW.yieldK hp (q := q) (R := fun H' => ∃ v', H'.get q = some (.cells [v'] true 1) ∧ scalL [v'] = false ∧ Own lo2 H' 3 v' (cs ++ [c]).length (ceS (cs ++ [c])) ∧ (∀ z, z < lo2 → z ≠ q → H'.get z = H.get z) ∧ WF H' ∧ H.next ≤ H'.next) gl rfl kl ko no ?_
  unfold asg264
  refine wE_region ?_; refine wO_val (a_new) ?_; refine yS ?_; refine wO_nil ?_
  refine y1 ?_
  refine ⟨rfl, by (simp (disch := first | omega | (simp only [z1, z2]; omega)) only [z3, z4, z5, z6, z7, z1, z2, gl, go]; exact rfl), ?_⟩
  unfold bod264
  refine wE_block ?_
  refine WE.genC ?_
  intro hA hAe
  have A1 : ∀ z, z < H.next → z ≠ l → H.get z = hA.get z := fun z hz hne => by rw [hAe]; symm; simp (disch := first | omega | (simp only [z1, z2]; omega)) only [z5, z4]
  have A3 : hA.get H.next = some (.cells (ceL c) true 1) := by rw [hAe]; (simp (disch := first | omega | (simp only [z1, z2]; omega)) only [z3, z4, z5, z6, z7, z1, z2, gl, go]; exact rfl)
  have A2 : hA.get l = some (.loop [(2, .pointer (some ⟨q, 0, none⟩)), (6, fv)] [7] asg264 bod264 1 .normal) := by rw [hAe]; (simp (disch := first | omega | (simp only [z1, z2]; omega)) only [z3, z4, z5, z6, z7, z1, z2, gl, go, A3]; exact rfl)
  have A5 : hA.next = H.next + 1 := by rw [hAe]; rfl
  have A6 : hA.log = [] := by rw [hAe]; simp (disch := first | omega | (simp only [z1, z2]; omega)) only [Heap.log_wr_new, Heap.log_push]; exact hr.log
  have A7 : WF hA := by rw [hAe]; exact (((hr.wf.push _).as (AS.wr _ _ _ _)).as (AS.wr _ _ _ _))
  clear hAe
  have Bo := (A1 q ko no).symm.trans go
  have ck : ltake 3 (ldrop 0 (ceL c)) = ceL c := rfl
  have ckl : Nat.beq (llen (ceL c)) 3 = true := rfl
  have ownA : Own lo2 hA 3 v cs.length (ceS cs) := own.keep (by omega) fun z hz hz2 => (A1 z hz2 (by omega)).symm
  clear go
  refine wE_region ?_; refine yL ?_; refine yN ?_; refine wO_val (a_bslice (by exact rfl) (by exact rfl)) ?_
  refine wO_app1w (lo := lo2) (c1 := ceL c) (ownA.ext ((Ext.refl hA).push _)) hm (by omega) (by omega) (by exact rfl) (by exact rfl) (src_slice (cs := ceL c) (by (simp (disch := first | omega | (simp only [z1, z2]; omega)) only [z3, z4, z5, z6, z7, z1, z2, gl, A3, A2, Bo]; exact rfl)) rfl rfl) rfl rfl ?_
  intro h3 own3 n3 l3 w3 o3
  have own3 : Own (H.next + 2) h3 3 (.slice (some ⟨H.next + 2, 0, none⟩) (cs.length + 1) UNK) (cs.length + 1) (ceS cs ++ ceL c) := by
    have e : (hA.push (.cells (ceL c) true 3)).next = H.next + 2 := by show hA.next + 1 = _; omega
    rw [← e]; exact own3
  have n3 : h3.next = H.next + 3 := by rw [n3]; show hA.next + 1 + 1 = _; omega
  have l3 : ∀ z ∈ h3.log, lo2 ≤ z := fun z hz => (l3 z hz).elim id fun e => by
    have e : z ∈ hA.log := e
    rw [A6] at e; cases e
  have o3 : ∀ z, z < lo2 → h3.get z = hA.get z := fun z hz => (o3 z (by show z < hA.next + 1; omega) hz).trans (z4 (by omega))
  have W3 : WF h3 := w3 (A7.push _)
  have e5 : ∀ o, (hA.push o).next = H.next + 2 := fun o => by show hA.next + 1 = _; omega
  rw [e5]
  have Co := (o3 q (by omega)).trans Bo
  have Cl := (o3 l (by omega)).trans A2
  have hce : ceS (cs ++ [c]) = ceS cs ++ ceL c := by rw [ceS_app, show ceS [c] = ceL c by simp [ceS]]
  have hcl : (cs ++ [c]).length = cs.length + 1 := by simp
  clear Bo A3 A2
  refine yS ?_; refine wO_nil ?_; refine y1 ?_; refine kB_n ?_
  refine ⟨rfl, ⟨_, by (simp (disch := first | omega | (simp only [z1, z2]; omega)) only [z3, z4, z5, z6, z7, z1, z2, gl, Co, Cl]; exact rfl), rfl⟩, fun z hz => ?_, wr_log_has (by omega), ⟨_, _, _, Heap.get_wr_new Co, rfl⟩, .slice (some ⟨H.next + 2, 0, none⟩) (cs.length + 1) UNK, (z5 no).trans (Heap.get_wr_new Co), rfl, ?_, fun z hz h1 => ?_, ?_, ?_⟩
  · rcases wr_log_old hz with rfl | hz
    · exact hlo
    · exact Nat.le_trans hlo2 (l3 z hz)
  · rw [hce, hcl]
    exact Own.low (lo := H.next + 2) (Own.keep own3 (Nat.le_refl _) fun z hz _ => (z5 (by omega)).trans (z5 (by omega))) (by omega)
  · by_cases hl : z = l
    · subst hl
      rw [gl]
      exact Heap.get_wr_new ((z5 (Ne.symm no)).trans Cl)
    · exact (z5 hl).trans ((z5 h1).trans ((o3 z hz).trans (A1 z (by omega) hl).symm))
  · exact (W3.as (AS.wr _ _ _ _)).as (AS.wr _ _ _ _)
  · show H.next ≤ h3.next
    omega
theorem cells_pre (s : List Nat) {n : Nat} : ∀ m, ∃ r, cellsTo s (n + m) = cellsTo s n ++ r
  | 0 => ⟨[], by simp⟩
  | m + 1 => by
    obtain ⟨r, e⟩ := cells_pre s (n := n) m
    exact ⟨r ++ (if sHas s (ceN (n + m)) then [ceN (n + m)] else []), by rw [← Nat.add_assoc, cellsTo_step, e, List.append_assoc]⟩
structure FnsCp (T : Nat → Option AFunc) : Prop where
  p : primAS T
  f123 : T 123 = some f123
  f213 : T 213 = some f213
  f214 : T 214 = some f214
  f264 : T 264 = some f264
  f265 : T 265 = some f265
  f266 : T 266 = some f266
set_option maxHeartbeats 8000000 in
theorem cells265 (F : FnsCp T) {h : Heap} (hr : Rdy h) {q0 l N lo : Nat} {s : List Nat} (hs : IsS s) {P : List Ce → Heap → Prop} (hN : N ≤ h.next) (hlo : lo ≤ h.next) {q : Nat} (Y : YldK T lo N l q ceV (cellsTo s 512) P)
    (g0 : h.get q0 = some (.cells (us s) true 1)) (htab : ∀ d H, P d H → Tab H) (h0 : P [] h) :
    Gr T 265 [.func (.yield l) #[] #[], .pointer (some ⟨q0, 0, none⟩)] h lo fun v h' => v = .tuple #[] ∧ P (cellsTo s 512) h' := by
  have hqn : q < h.next := Nat.lt_of_lt_of_le Y.hq hN
  have hp := F.p
  have k8 := us_llen hs.len
  have k9 := us_take8 hs.len
  refine Gr.ofK hp F.f265 hlo (fun v h1 hA p => kept_gc Y hqn hA hr.log p) ?_
  refine y4 ?_; refine wO_val (a_loadN (by exact rfl) (by assumption) (by assumption) (by assumption)) ?_; refine yM ?_; refine y3 ?_; refine wE_block ?_
  refine wE_loop (fun k e ds h' => ∃ z : Nat, z ≤ 8 ∧ 8 - z = k ∧ e = [(0, .func (.yield l) #[] #[]), (6, sv s), (7, .int .i64 (z : Nat))] ∧ ds = [] ∧ Lk lo h h' ∧ P (cellsTo s (z * 64)) h' ∧ (h' = h ∨ q ∈ h'.log ∧ Dirty h' q))
    ⟨0, by omega, rfl, rfl, rfl, .refl _ _, h0, .inl rfl⟩ ?_
  rintro k e ds h' ⟨z, hz8, rfl, rfl, rfl, hk, hP, hm⟩
  by_cases hz : z < 8
  · have e1 : lget (us s).toArray.toList (z * 1) = some (.int .u64 ((s.getD z 0 : Nat) : Int)) := by
      rw [List.toList_toArray, Nat.mul_one, lget_eq]
      unfold us
      rw [List.getElem?_map, getD_at (by rw [hs.len]; exact hz)]; rfl
    have hx0 := hs.getD_lt z
    obtain ⟨rest, hrest⟩ : ∃ r, cellsTo s 512 = cellsTo s (z * 64) ++ planeC s z ++ r := by
      obtain ⟨r, e⟩ := cells_pre s (n := (z + 1) * 64) (512 - (z + 1) * 64)
      rw [show (z + 1) * 64 + (512 - (z + 1) * 64) = 512 by omega, cellsTo_plane s hz] at e
      exact ⟨r, e⟩
    have hplane := cellsTo_plane s hz
    have hpl : planeC s z = (bitsOf (s.getD z 0)).map (ceOf z) := rfl
    generalize hx : s.getD z 0 = x0 at *
    generalize planeC s z = pl at *
    refine y4 ?_; refine yt ?_; refine y3 ?_; refine wE_seq ?_; refine yY ?_; refine wE_skip ?_; refine kS_n ?_; refine wE_seq ?_; refine wE_block ?_; refine y4 ?_; refine yM ?_; refine wO_val (a_idxA (by exact rfl) (by exact rfl) (by omega) (by assumption)) ?_; refine yM ?_; refine yM ?_; refine y3 ?_; refine wE_block ?_
    refine wE_loop (fun k e ds h'' => ∃ (x : Nat) (d : List Ce), x < U64 ∧ d ++ (bitsOf x).map (ceOf z) = pl ∧ (bitsOf x).length = k ∧ e = [(0, .func (.yield l) #[] #[]), (3, .int .i64 (z : Nat)), (4, .int .u64 (x : Nat)), (6, sv s), (7, .int .i64 (z : Nat))] ∧ ds = [] ∧ Lk lo h h'' ∧ P (cellsTo s (z * 64) ++ d) h'' ∧ (h'' = h ∨ q ∈ h''.log ∧ Dirty h'' q))
      ⟨x0, [], hx0, by rw [hpl]; rfl, rfl, rfl, rfl, hk, by rw [List.append_nil]; exact hP, hm⟩ ?_
    clear hP hk hm h'
    rintro k e ds h' ⟨x, d, hxl, hd, rfl, rfl, rfl, hk, hP, hm⟩
    by_cases hx : x = 0
    · subst hx
      rw [bitsOf_zero] at hd
      have hd : d = pl := by simpa using hd
      subst hd
      rw [← hplane] at hP
      refine wE_seq ?_; refine y4 ?_; refine yM ?_; refine yf ?_; refine y3 ?_; refine yX ?_; refine wE_exit ?_; refine kS_e ?_
      refine kS_e ?_; refine kB_e ?_; refine kB_n ?_; refine kS_n ?_; refine wE_region ?_; refine yinc ?_; refine yM ?_; refine y3 ?_
      exact ⟨8 - (z + 1), by omega, z + 1, by omega, rfl, rfl, rfl, hk, hP, hm⟩
    · obtain ⟨b, m, hform⟩ := odd_form x hx
      have hb64 := (low_and hform hxl).1
      have hstep := bitsOf_step hform hxl
      have m1 : numOp .neq (.int .u64 (x : Nat)) (.int .u64 0) = some (.bool true) := m_neqT (by omega)
      have C := tz266 F.p F.f266 (h := { h' with log := [] }) (.of (hk.wf hr.wf)) (show Tab h' from htab _ _ hP) hxl hform
      have m2 : numOp .rem (.int .i64 (b : Nat)) (.int .i64 8) = some (.int .i64 ((b % 8 : Nat) : Int)) := m_rem8
      have m3 : numOp .quo (.int .i64 (b : Nat)) (.int .i64 8) = some (.int .i64 ((b / 8 : Nat) : Int)) := m_quo8 (by omega)
      have m4 : numOp .sub (.int .u64 (x : Nat)) (.int .u64 1) = some (.int .u64 ((x - 1 : Nat) : Int)) := m_sub (by rw [show (x : Int) - 1 = ((x - 1 : Nat) : Int) by omega]; exact wrapA_u64 (by unfold U64 at hxl; omega))
      have m5 := m_and (a := x) (b := x - 1) hxl (Nat.lt_of_le_of_lt (Nat.sub_le x 1) hxl)
      rw [hstep] at hd ⊢
      have hlt : Nat.land x (x - 1) < U64 := land_lt hxl
      generalize Nat.land x (x - 1) = x' at *
      rw [List.map_cons] at hd
      have hsp : cellsTo s 512 = (cellsTo s (z * 64) ++ d) ++ ceOf z b :: ((bitsOf x').map (ceOf z) ++ rest) := by
        rw [hrest, ← hd]; simp
      refine wE_seq ?_; refine y4 ?_; refine yM ?_; refine wO_val (a_num (by exact rfl) (by exact rfl) (by with_reducible assumption)) ?_; refine y3 ?_; refine yY ?_; refine wE_skip ?_; refine kS_n ?_
      refine wE_seq ?_; refine wE_block ?_; refine y4 ?_; refine yM ?_
      refine yC ?_
      refine FW.pu C ?_
      clear C
      refine yM ?_; refine y3 ?_; refine y4 ?_; refine yM ?_; refine yM ?_; refine wO_val (a_num (by exact rfl) (by exact rfl) (by with_reducible assumption)) ?_
      refine yM ?_; refine wO_val (a_num (by exact rfl) (by exact rfl) (by with_reducible assumption)) ?_; refine yM ?_; refine wO_val (a_build (by exact rfl)) ?_
      refine wO_call (fn := .yield l) (args := [ceV (ceOf z b)]) (by rfl) ?_
      refine Y.call hp hsp (hk.wf hr.wf) (Nat.le_trans hlo hk.next) (Nat.le_trans hN hk.next) hqn hP ?_
      intro h2 hk2 hm2 hP2
      refine yA ?_; refine y3 ?_; refine yX ?_; refine wE_skip ?_; refine kB_n ?_; refine kS_n ?_; refine wE_region ?_; refine yM ?_; refine yM ?_
      refine wO_val (a_num (by exact rfl) (by exact rfl) (by with_reducible assumption)) ?_; refine wO_val (a_num (by exact rfl) (by exact rfl) (by with_reducible assumption)) ?_; refine yM ?_; refine y3 ?_
      exact ⟨(bitsOf x').length, by simp, x', d ++ [ceOf z b], hlt, by rw [← hd]; simp, rfl, rfl, rfl, hk.trans hk2, by rw [← List.append_assoc]; exact hP2, .inr hm2⟩
  · obtain rfl : z = 8 := by omega
    refine y4 ?_; refine yf ?_; refine y3 ?_; refine wE_seq ?_; refine yX ?_; refine wE_exit ?_; refine kS_e ?_; refine kS_e ?_; refine kB_e ?_
    exact endG_end (hk.log (by rw [hr.log]; exact LogGe.nil _)) rfl ⟨rfl, hP, hm⟩
structure PCe (l q : Nat) (H0 : Heap) (L : AObj) (done : List Ce) (H : Heap) : Prop where
  old : ∀ z, z < q → H.get z = H0.get z
  loop : H.get l = some L
  nx : l < H.next
  val : ∃ v, H.get q = some (.cells [v] true 1) ∧ Own (l + 1) H 3 v done.length (ceS done)
theorem PCe.stable {l q : Nat} {H0 : Heap} {L : AObj} (hq : q < l) (done : List Ce) (H H' : Heap) (p : PCe l q H0 L done H) (hn : H.next ≤ H'.next) (h : ∀ x, x < H.next → H'.get x = H.get x) : PCe l q H0 L done H' := by
  obtain ⟨p1, p2, p3, v, p4, p5⟩ := p
  exact ⟨fun z hz => (h z (by omega)).trans (p1 z hz), (h l p3).trans p2, by omega, v, (h q (by omega)).trans p4, p5.keep hn fun z _ hz => h z hz⟩
def fnC (q0 : Nat) : Value := .func (.func 265) #[] #[.pointer (some ⟨q0, 0, none⟩)]
theorem Own.flat {lo lo' sz n : Nat} {h h' : Heap} {v : Value} {cs : List Value} (hv : noRef v = true) (s : Own lo h sz v n cs) : Own lo' h' sz v n cs := by
  cases s with
  | nil => exact .nil
  | full => cases hv
set_option maxHeartbeats 8000000 in
theorem append264 (F : FnsCp T) {h : Heap} (hr : Rdy h) (hg : Tab h) (h2 : 2 < h.next) {q0 : Nat} {s : List Nat} (hs : IsS s) (g0 : h.get q0 = some (.cells (us s) true 1)) :
    Al T 264 [.slice none 0 0, fnC q0] h fun v h' => Own h.next h' 3 v (cellsTo s 512).length (ceS (cellsTo s 512)) := by
  have hp := F.p
  refine .of hp F.f264 hr (fun v h1 hv q => Own.flat hv q) ?_
  have kq := hr.wf.get_lt g0
  have hl5 := cellsTo_le s 512
  have x1 : Ext h (h.push (.cells (cellsOf (Value.slice none 0 0)) true 1)) := (Ext.refl h).push _
  have q1 : (h.push (.cells (cellsOf (Value.slice none 0 0)) true 1)).get h.next = some (.cells [.slice none 0 0] true 1) := z3 _ _
  have n1 : (h.push (.cells (cellsOf (Value.slice none 0 0)) true 1)).next = h.next + 1 := rfl
  refine y4 ?_; refine yB ?_; refine yM ?_; refine y3 ?_
  generalize (h.push (.cells (cellsOf (Value.slice none 0 0)) true 1)) = H at *
  have W := x1.wf hr.wf
  have hL := x1.log.trans hr.log
  refine wE_seq ?_; refine y4 ?_; refine yM ?_; refine y3 ?_; refine wE_block ?_
  refine wE_rangeK (lo := h.next) (P := PCe H.next h.next H (.loop [(2, .pointer (some ⟨h.next, 0, none⟩)), (6, fnC q0)] [7] asg264 bod264 0 .normal) (cellsTo s 512)) rfl (by rfl) (by rw [F.f265]; rfl) (by omega) (by omega) hL W ?_ (fun H p => ⟨_, _, _, _, p.loop⟩) ?_
  · have Y : YldK T h.next (H.next + 1) H.next h.next ceV (cellsTo s 512) (PCe H.next h.next H (.loop [(2, .pointer (some ⟨h.next, 0, none⟩)), (6, fnC q0)] [7] asg264 bod264 0 .normal)) := by
      refine ⟨by omega, fun done x rest Hh hsp hrH hN hP => ?_, PCe.stable (by omega)⟩
      obtain ⟨p1, p2, p3, v, p4, p5⟩ := hP
      have hdl : done.length < 1000000 := by
        have := congrArg List.length hsp
        rw [List.length_append] at this
        omega
      refine FW.mono' (cell_round hp hrH (lo := h.next) (lo2 := H.next + 1) (cs := done) hdl (Nat.le_refl _) p2 p4 p5 (by omega) (by omega) (by omega) hN) ?_
      rintro r' H' ⟨r1, r2, r3, v', r4, r5, r6, r7, r8, r9⟩
      exact ⟨r1, r2, r3, ⟨_, _, _, r4, r5⟩, fun z hz => (r7 z (by omega) (by omega)).trans (p1 z hz), (r7 _ (by omega) (by omega)).trans p2, by omega, v', r4, r6⟩
    exact cells265 F (.of (W.push _)) (q0 := q0) (l := H.next) (N := H.next + 1) (lo := h.next) hs (Nat.le_refl _) (by show h.next ≤ H.next + 1; omega) Y ((z4 (by omega)).trans ((x1.old _ kq).trans g0)) (fun d H' hP => (hP.old 2 h2).trans (hg.ext x1 h2))
      ⟨fun z hz => z4 (by omega), z3 _ _, Nat.lt_succ_self _, _, (z4 (by omega)).trans q1, .nil⟩
  intro h4 h5 k1 k2 k3 k4 k5 k6 hP
  obtain ⟨p1, p2, p3, v, p4, p5⟩ := hP
  have D := (k5 h.next (by omega)).trans p4
  have ow := p5.keep (h' := h5) (by omega) fun z hz _ => k5 z (by omega)
  generalize cellsTo s 512 = cs at *
  refine kB_n ?_; refine kS_n ?_; refine y4 ?_; refine yL ?_; refine yM ?_; refine y3 ?_; refine wE_ret ?_
  exact endA_ret k1 rfl (ow.low (by omega))
theorem collect213 (F : FnsCp T) {h : Heap} (hr : Rdy h) (hg : Tab h) (h2 : 2 < h.next) {q0 : Nat} {s : List Nat} (hs : IsS s) (g0 : h.get q0 = some (.cells (us s) true 1)) :
    Al T 213 [fnC q0] h fun v h' => Own h.next h' 3 v (cellsTo s 512).length (ceS (cellsTo s 512)) := by
  refine .of F.p F.f213 hr (fun v h1 hv q => Own.flat hv q) ?_
  have C := append264 F (h := { h with log := [] }) (.of hr.wf) hg h2 hs g0
  refine y4 ?_; refine yM ?_; refine y3 ?_; refine y4 ?_; refine yM ?_
  refine yC ?_
  refine FW.al C (fun v h' m q => q.log m) ?_
  rintro v H1 x1 q1
  clear C
  refine yM ?_; refine y3 ?_; refine wE_ret ?_
  exact endA_ret (x1.log.trans hr.log) rfl q1
theorem cells214 (F : FnsCp T) {h : Heap} (hr : Rdy h) {s : List Nat} (hs : IsS s) :
    Al T 214 [sv s] h fun v h' => ∃ q, v = fnC q ∧ h'.get q = some (.cells (us s) true 1) ∧ h.next ≤ q ∧ q < h'.next := by
  refine .of F.p F.f214 hr ?_ ?_
  · rintro v h1 hv ⟨q, rfl, _⟩
    cases hv
  refine y4 ?_; refine yB ?_; refine yM ?_; refine y3 ?_; refine y4 ?_; refine wO_val (a_mkFunc (by exact rfl) (by exact rfl)) ?_
  refine yM ?_; refine y3 ?_; refine wE_ret ?_
  exact endA_ret hr.log rfl ⟨h.next, rfl, z3 _ _, Nat.le_refl _, Nat.lt_succ_self _⟩
theorem cells123 (F : FnsCp T) {h : Heap} (hr : Rdy h) (hg : Tab h) (h2 : 2 < h.next) {s : List Nat} (hs : IsS s) :
    Al T 123 [sv s] h fun v h' => Own h.next h' 3 v (cellsTo s 512).length (ceS (cellsTo s 512)) := by
  refine .of F.p F.f123 hr (fun v h1 hv q => Own.flat hv q) ?_
  have k8 := us_llen hs.len
  have k9 := us_take8 hs.len
  have x0 : Ext h (h.push (.cells (cellsOf (sv s)) true 1)) := (Ext.refl h).push _
  have g0 : (h.push (.cells (cellsOf (sv s)) true 1)).get h.next = some (.cells (us s) true 1) := z3 h _
  have n0 : (h.push (.cells (cellsOf (sv s)) true 1)).next = h.next + 1 := rfl
  refine y4 ?_; refine yB ?_; refine yM ?_; refine y3 ?_
  generalize (h.push (.cells (cellsOf (sv s)) true 1)) = H at *
  have W := x0.wf hr.wf
  have hL := x0.log.trans hr.log
  have C := cells214 F (h := { H with log := [] }) (.of W) hs
  refine y4 ?_; refine wO_val (a_loadN (by exact rfl) (by assumption) (by assumption) (by assumption)) ?_
  refine yC ?_
  refine FW.al C (fun v h' m q => q) ?_
  rintro _ H1 x1 ⟨q, rfl, gq, q1, q2⟩
  clear C
  have W1 := x1.wf W
  have hL1 := x1.log.trans hL
  have n1 := x1.next
  have hg1 : Tab H1 := hg.ext (x0.trans x1) h2
  have C := collect213 F (h := { H1 with log := [] }) (.of W1) hg1 (by show 2 < H1.next; omega) hs gq
  generalize cellsTo s 512 = cs at *
  skip
  refine yC ?_
  refine FW.al C (fun v h' m q => q.log m) ?_
  rintro v H2 x2 q2'
  clear C
  refine yM ?_; refine y3 ?_; refine wE_ret ?_
  exact endA_ret (x2.log.trans hL1) rfl (q2'.low (by show h.next ≤ H1.next; omega))
end Go.A.Pk
end
section
set_option maxRecDepth 100000
namespace Go.A.Pk
variable {T : Nat → Option AFunc}
abbrev CeQ (h : Heap) (v : Value) (l : List Ce) : Prop := SliceOf h 3 v l.length (ceS l)
theorem CeQ.head {h : Heap} {a : Option Addr} {n c : Nat} {x : Ce} {l : List Ce} (s : CeQ h (.slice a n c) (x :: l)) :
    ∃ b o vs own t, a = some ⟨b, o, none⟩ ∧ h.get b = some (.cells vs own t) ∧ ltake 3 (ldrop (o + 0 * 3) vs) = ceL x := by
  rcases SliceOf.inv s with ⟨_, _, h0, _⟩ | ⟨b, o, cap, hv, s1, hc⟩
  · simp at h0
  · cases hv
    obtain ⟨vs, own, t, g1, g2⟩ := s1.obj
    refine ⟨b, o, vs, own, t, rfl, g1, ?_⟩
    have e : (ceS (x :: l)).take 3 = ceL x := rfl
    rw [← e, ← g2]
    simp only [ltake_eq, ldrop_eq, List.take_take, List.length_cons, Nat.zero_mul, Nat.add_zero]
    rw [Nat.min_eq_left (by omega)]
theorem Own.consI {lo : Nat} {h : Heap} {v : Value} {x : Int} {l : List Int} (s : Own lo h 1 v (x :: l).length (ints (x :: l))) :
    ∃ q, v = .slice (some ⟨q, 0, none⟩) (l.length + 1) UNK ∧ lo ≤ q ∧ q < h.next ∧ h.get q = some (.cells (.int .i64 x :: ints l) true 1) := by
  generalize hn : (x :: l).length = n at s
  generalize hc : ints (x :: l) = cs at s
  cases s with
  | nil => simp at hn
  | full h1 h2 h3 h4 h5 => subst hn; subst hc; exact ⟨_, rfl, h1, h2, h3⟩
def zq3 : List Value := [.int .i64 0, .int .i64 0, .int .i64 0]
structure FnsD6 (T : Nat → Option AFunc) : Prop where
  k7 : FnsK7 T
  hv : FnsHv T
  f36 : T 36 = some f36
  cp : FnsCp T
set_option maxHeartbeats 16000000 in
theorem doubt36 (F : FnsD6 T) {h : Heap} (hr : Rdy h) (hg : Tab h) (h2 : 2 < h.next) {bl : List Nat} (hb : IsS bl) {a : Option Addr} {n c : Nat} {l : List Rd} (s : RdS h (.slice a n c) l) (hn : n < 1000000) (day : Int) : Al T 36 [sv bl, .slice a n c, .int .i64 day] h (DouQ (douR bl l day)) := by
  refine .of F.k7.sn.p F.f36 hr (fun v h1 hv q => DouQ.flat hv q) ?_
  obtain rfl := s.len
  have k8 := us_llen hb.len
  have k9 := us_take8 hb.len
  have g0 : ((h.push (.cells (cellsOf (sv bl)) true 1)).push (.cells [.int .i64 0, .int .i64 0, .int .i64 0] true 1)).get h.next = some (.cells (us bl) true 1) := (z4 (Nat.lt_succ_self _)).trans (z3 h _)
  have n0 : ((h.push (.cells (cellsOf (sv bl)) true 1)).push (.cells [.int .i64 0, .int .i64 0, .int .i64 0] true 1)).next = h.next + 2 := rfl
  have ga0 : ((h.push (.cells (cellsOf (sv bl)) true 1)).push (.cells [.int .i64 0, .int .i64 0, .int .i64 0] true 1)).get (h.next + 1) = some (.cells zq3 true 1) := z3 _ _
  have x0 : Ext h ((h.push (.cells (cellsOf (sv bl)) true 1)).push (.cells [.int .i64 0, .int .i64 0, .int .i64 0] true 1)) := ((Ext.refl h).push _).push _
  refine y4 ?_; refine yB ?_; refine wO_val (a_new) ?_; refine yM ?_; refine yM ?_; refine yM ?_; refine y3 ?_
  generalize ((h.push (.cells (cellsOf (sv bl)) true 1)).push (.cells [.int .i64 0, .int .i64 0, .int .i64 0] true 1)) = H at *
  have hL : H.log = [] := x0.log.trans hr.log
  have W := x0.wf hr.wf
  have K := counting44 F.k7.fo F.k7.f40 F.k7.f131 F.k7.f132 F.k7.f133 F.k7.f134 F.k7.f44 (.of W) ((s.ext x0).log []) hn day
  rw [chkR_law, cnt_law] at K
  have hlen : (cntR day l).length < 1000000 := Nat.lt_of_le_of_lt (List.length_filter_le ..) hn
  have hkd := fun h0 x hx => cnt_kind (l := l) h0 (day := day) (x := x) hx
  unfold douR
  generalize (chkR refR l).2 = e0 at *
  refine y4 ?_; refine yM ?_; refine yM ?_
  refine yC ?_
  refine FW.al K (fun v h' m q => by obtain ⟨x, q1, q2⟩ := q; exact ⟨x, q1, q2.log m⟩) ?_
  rintro _ H1 x1 ⟨v1, rfl, s1⟩
  clear K
  have W1 := x1.wf W
  have hL1 := x1.log.trans hL
  have ga1 := (x1.old _ (by omega)).trans ga0
  have g1 := (x1.old _ (by omega)).trans g0
  have n1 := x1.next
  have ck0 : ltake 3 (ldrop 0 (ceL c0)) = ceL c0 := rfl
  clear g0 ga0
  by_cases he : e0 = 0
  · subst he
    rw [if_pos rfl] at s1
    rw [if_neg (fun q => q rfl)]
    obtain ⟨a1, c1, rfl⟩ := s1.sl.form
    have C1 := seen122 F.k7.sn (.of W1) hb (s1.log []) hlen
    have hw := seenW_ok hb s1.ok
    have hkd := hkd rfl
    have hdo := fun c hc => dou_seen hb s1.ok (c := c) hc
    have hdb := fun c hc hs => dou_bare hb s1.ok hkd (c := c) hc hs
    have hD : inDoubt bl (cntR day l) = cellsTo (sLess (seenW bl (cntR day l)).1 (seenW bl (cntR day l)).2) 512 := rfl
    have hDl := inDoubt_lt (bl := bl) (r := cntR day l)
    generalize cntR day l = l1 at *
    generalize inDoubt bl l1 = cs at *
    generalize seenW bl l1 = w at *
    clear hkd
    have wl := wL_length hw
    have wo := wL_ones w
    have wa := wL_a hw
    have wb := wL_b hw
    have wka := us_llen hw.a.len
    have wkb := us_llen hw.b.len
    refine yM ?_; refine yE ?_; refine yE ?_; refine yM ?_; refine yM ?_; refine y3 ?_; refine wE_seq ?_
    refine y4 ?_; refine yM ?_; refine yf ?_; refine y3 ?_; refine yX ?_; refine wE_skip ?_; refine kS_n ?_; refine y4 ?_; refine wO_val (a_loadN (by exact rfl) (by assumption) (by assumption) (by assumption)) ?_; refine yM ?_
    refine yC ?_
    refine FW.pu C1 ?_
    clear C1
    have x2 := ext_pw (h := H1) (base := h.next) (by omega) (.cells (lrep 16 (.int .u64 0)) true 1) (.cells (wL w) true 1)
    have gq := get_pw (h := H1) (base := h.next) (lrep 16 (.int .u64 0)) (wL w)
    have nq : ((H1.push (.cells (lrep 16 (.int .u64 0)) true 1)).wr h.next H1.next (.cells (wL w) true 1)).next = H1.next + 1 := rfl
    refine wO_val (a_new) ?_; refine wO_val (a_storeAll (by exact rfl) (by exact rfl) (by (simp (disch := first | omega | (simp only [z1, z2]; omega)) only [z3, z4, z5, z6, z7, z1, z2, ga1, g1, gq]; exact rfl)) (by assumption) (by exact rfl) (by assumption)) ?_; refine y3 ?_
    generalize ((H1.push (.cells (lrep 16 (.int .u64 0)) true 1)).wr h.next H1.next (.cells (wL w) true 1)) = H2 at *
    have ey2 := (x0.trans x1).trans x2
    have W2 := ey2.wf hr.wf
    have hL2 := ey2.log.trans hr.log
    have ga2 := (x2.old _ (by omega)).trans ga1
    have g2 := (x2.old _ (by omega)).trans g1
    have s2 := s1.ext x2
    have hg2 : Tab H2 := hg.ext ey2 h2
    have ls := hw.a.less hw.b
    have C2 := less124 F.k7.sn.p F.k7.sn.f124 (.of W2) hw.a hw.b
    have C3 := cells123 F.cp (h := { H2 with log := [] }) (.of W2) hg2 (by show 2 < H2.next; omega) ls
    rw [← hD] at C3
    have lk := us_llen ls.len
    generalize sLess w.1 w.2 = z at *
    clear ga1 g1
    refine wE_seq ?_; refine y4 ?_; refine yF ?_; refine wO_val (a_loadN (by exact rfl) (by assumption) (by assumption) (by assumption)) ?_; refine yF ?_; refine wO_val (a_loadN (by exact rfl) (by assumption) (by assumption) (by assumption)) ?_
    refine yC ?_
    refine FW.pu C2 ?_
    clear C2
    skip
    refine yC ?_
    refine FW.al C3 (fun v h' m q => q.log m) ?_
    rintro v3 H3 x3 q3
    clear C3 hD
    have W3 := x3.wf W2
    have hL3 := x3.log.trans hL2
    have ga3 := (x3.old _ (by omega)).trans ga2
    have g3 := (x3.old _ (by omega)).trans g2
    have s3 := s2.ext x3
    have n3 := x3.next
    clear ga2 g2 s2 gq
    cases cs with
    | nil =>
      obtain rfl : v3 = .slice none 0 0 := by
        cases q3 with
        | nil => rfl
        | full a b c d e => exact absurd rfl e
      refine yD ?_; refine yM ?_; refine y3 ?_; refine wE_block ?_
      refine wE_loop (fun m e ds h' => m = 0 ∧ e = [(3, .pointer (some ⟨h.next, 0, none⟩)), (6, .pointer (some ⟨h.next + 1, 0, none⟩)), (10, .slice a1 l1.length c1), (34, .slice none 0 0), (35, .int .i64 0), (36, .int .i64 0)] ∧ ds = [] ∧ H3 = h') ⟨rfl, rfl, rfl, rfl⟩ ?_
      rintro m e ds h' ⟨rfl, rfl, rfl, rfl⟩
      refine y4 ?_; refine yf ?_; refine y3 ?_; refine wE_seq ?_; refine yX ?_; refine wE_exit ?_; refine kS_e ?_; refine kS_e ?_; refine kB_e ?_; refine kS_n ?_
      refine y4 ?_; refine wO_val (a_build (by exact rfl)) ?_; refine yS ?_; refine yM ?_; refine yM ?_; refine yM ?_; refine y3 ?_; refine wE_ret ?_
      refine endA_ret ?_ (res_cells (own := true) (s := 1) (l := ceL c0) rfl ?_ ck0 rfl rfl) (DouQ.none ⟨c0, [], false, 0⟩ rfl)
      · rw [Heap.log_wr_new (by first | omega | exact Nat.le_succ _)]; exact hL3
      · (simp (disch := first | omega | (simp only [z1, z2]; omega)) only [z3, z4, z5, z6, z7, z1, z2, ga3, g3]; exact rfl)
    | cons ce cs =>
      have hlt : (ce :: cs).length < 4000000 := by omega
      have s4 := q3.slice hlt
      obtain ⟨a3, c3, rfl⟩ := s4.form
      obtain ⟨b3, o3, vs3, own3, t3, rfl, e3, k3⟩ := CeQ.head s4
      have hlt2 : cs.length + 1 ≤ 512 := hDl
      obtain ⟨yq1, hy1⟩ := hdo ce (by simp)
      have hy1l : yq1.length + 1 ≤ l1.length := by
        have := havR_le (k := 1) (c := ce) (l := l1)
        rw [hy1] at this; exact this
      have hdb := hdb ce (by simp)
      clear hdo q3 s4
      refine yD ?_; refine yM ?_; refine y3 ?_; refine wE_block ?_
      refine wE_loop (fun m e ds h' => m = 0 ∧ e = [(3, .pointer (some ⟨h.next, 0, none⟩)), (6, .pointer (some ⟨h.next + 1, 0, none⟩)), (10, .slice a1 l1.length c1), (34, .slice (some ⟨b3, o3, none⟩) (cs.length + 1) c3), (35, .int .i64 ((cs.length + 1 : Nat) : Int)), (36, .int .i64 ((0 : Nat) : Int))] ∧ ds = [] ∧ H3 = h') ⟨rfl, rfl, rfl, rfl⟩ ?_
      rintro m e ds h' ⟨rfl, rfl, rfl, rfl⟩
      refine y4 ?_; refine yt ?_; refine y3 ?_; refine wE_seq ?_; refine yY ?_; refine wE_skip ?_; refine kS_n ?_; refine wE_seq ?_; refine wE_block ?_
      refine wE_cutP (E0 := [(3, .pointer (some ⟨h.next, 0, none⟩)), (6, .pointer (some ⟨h.next + 1, 0, none⟩)), (10, .slice a1 l1.length c1), (14, .pointer (some ⟨H3.next, 0, none⟩))]) (P := fun h' => Ext H3 h' ∧ h'.next = H3.next + 1 ∧ h'.get H3.next = some (.cells (ceL ce) true 1)) ?_ ?_
      · refine wE_region ?_; refine wO_val (a_iaddrS (by exact rfl) (by exact rfl) (by omega)) ?_; refine wO_val (a_loadN (by exact rfl) (by assumption) (by assumption) (by exact rfl)) ?_; refine wO_val (a_new) ?_
        refine yS ?_; refine wO_nil ?_
        refine y1 ?_
        exact ⟨rfl, rfl, rfl, ext_pw (by omega) _ _, rfl, get_pw _ _⟩
      rintro H4 ⟨x4, n4, g4c⟩
      have W4 := x4.wf W3
      have hL4 := x4.log.trans hL3
      have ga4 := (x4.old _ (by omega)).trans ga3
      have g4 := (x4.old _ (by omega)).trans g3
      have s5 := s3.ext x4
      have C4 := having125 F.hv (.of W4) (s5.log []) hlen (k := 1) (by omega) ce
      rw [hy1] at C4
      have ck : ltake 3 (ldrop 0 (ceL ce)) = ceL ce := rfl
      have ckl : Nat.beq (llen (ceL ce)) 3 = true := rfl
      clear ga3 g3 s3 e3 k3
      refine y4 ?_; refine yM ?_; refine yN ?_
      refine yC ?_
      refine FW.al C4 (fun v h' m q => q.log m) ?_
      rintro v5 H5 x5 q5
      clear C4
      obtain ⟨q, rfl, hq1, hq2, hq3⟩ := Own.consI q5
      have W5 := x5.wf W4
      have hL5 := x5.log.trans hL4
      have n5 := x5.next
      have ga5 := (x5.old _ (by omega)).trans ga4
      have g5 := (x5.old _ (by omega)).trans g4
      have g5c := (x5.old _ (by omega)).trans g4c
      have s6 := s5.ext x5
      have hq1 : H4.next ≤ q := hq1
      clear ga4 g4 g4c s5 q5
      refine wO_val (a_slice3 (i := 1) (by exact rfl) (by exact rfl) (by exact rfl) (by omega) (by unfold UNK; omega) (by omega) (.inr ⟨_, _, rfl⟩)) ?_
      have C5 := has38 F.hv.h (.of W5) hb ce
      have C6 := having125 F.hv (.of W5) (s6.log []) hlen (k := 2) (by omega) ce
      refine yM ?_; refine y3 ?_; refine wE_seq ?_; refine y4 ?_; refine wO_val (a_loadN (by exact rfl) (by assumption) (by assumption) (by assumption)) ?_
      refine yN ?_
      refine yC ?_
      refine FW.pu C5 ?_
      clear C5
      rw [show douS bl l1 (ce :: cs) = ⟨ce, douI bl l1 ce, true, 0⟩ from rfl]
      unfold douI
      cases hbc : sHas bl ce with
      | false =>
        clear C6
        refine y3 ?_; refine yX ?_; refine wE_skip ?_; refine kS_n ?_; refine y4 ?_; refine yN ?_; refine yM ?_
        refine yS ?_; refine yM ?_; refine yM ?_; refine yM ?_; refine y3 ?_; refine wE_ret ?_; refine kB_r ?_
        refine kS_r ?_; refine kS_r ?_; refine kB_r ?_; refine kS_r ?_
        refine endA_ret ?_ (res_cells (own := true) (s := 1) (l := ceL ce) rfl ?_ ck ckl rfl) ⟨_, rfl, ?_⟩
        · rw [Heap.log_wr_new (by first | omega | exact Nat.le_succ _)]; exact hL5
        · (simp (disch := first | omega | (simp only [z1, z2]; omega)) only [z3, z4, z5, z6, z7, z1, z2, hq3, ga5, g5, g5c]; exact rfl)
        · rw [if_neg (by simp)]
          exact .mem ⟨hq2, ⟨_, _, _, (z5 (by omega)).trans hq3, rfl⟩, rfl⟩ (by omega)
      | true =>
        obtain ⟨yq2, hy2⟩ := hdb hbc
        have hy2l : yq2.length + 1 ≤ l1.length := by
          have := havR_le (k := 2) (c := ce) (l := l1)
          rw [hy2] at this; exact this
        rw [hy2] at C6
        refine y3 ?_; refine yY ?_; refine wE_region ?_; refine yM ?_; refine yM ?_; refine yN ?_
        refine yC ?_
        refine FW.al C6 (fun v h' m q => q.log m) ?_
        rintro v7 H7 x7 q7
        clear C6
        obtain ⟨p, rfl, hp1, hp2, hp3⟩ := Own.consI q7
        have W7 := x7.wf W5
        have hL7 := x7.log.trans hL5
        have n7 := x7.next
        have ga7 := (x7.old _ (by omega)).trans ga5
        have g7c := (x7.old _ (by omega)).trans g5c
        have hq7 := (x7.old _ hq2).trans hq3
        have lgp : lget (Value.int .i64 (firstI 2 ce l1) :: ints yq2) (0 + 0 * 1) = some (.int .i64 (firstI 2 ce l1)) := rfl
        clear ga5 g5 g5c hq3 q7
        skip
        refine wO_val (a_iaddrS (i := 0) (by exact rfl) (by exact rfl) (by omega)) ?_
        refine yL ?_; refine wO_val (a_bslice (by exact rfl) (by exact rfl)) ?_
        refine wO_val (a_app_full (n := 1) (cs := [.int .i64 (firstI 2 ce l1)]) (ws := [.int .i64 (firstI 1 ce l1), .int .i64 (firstI 2 ce l1)]) (vs := Value.int .i64 (firstI 1 ce l1) :: ints yq1) (by exact rfl) (by exact rfl) (src_slice (cs := [.int .i64 (firstI 2 ce l1)]) (by (simp (disch := first | omega | (simp only [z1, z2]; omega)) only [z3, z4, z5, z6, z7, z1, z2, hp3, ga7, g7c, hq7]; exact rfl)) rfl rfl) (by omega) (by omega) (by unfold UNK; omega) ((z4 (by omega)).trans hq7) (by simp) (by omega) rfl) ?_
        refine yM ?_; refine y3 ?_; refine y4 ?_
        refine yN ?_; refine yM ?_
        refine yS ?_; refine yM ?_
        refine yM ?_; refine yM ?_; refine y3 ?_; refine wE_ret ?_; refine kB_r ?_; refine kS_r ?_; refine kS_r ?_; refine kB_r ?_; refine kS_r ?_
        refine endA_ret ?_ (res_cells (own := true) (s := 1) (l := ceL ce) rfl ?_ ck ckl rfl) ⟨_, rfl, ?_⟩
        · rw [Heap.log_wr_new (by first | omega | exact Nat.le_succ _)]; exact hL7
        · (simp (disch := first | omega | (simp only [z1, z2]; omega)) only [z3, z4, z5, z6, z7, z1, z2, hp3, ga7, g7c, hq7]; exact rfl)
        · rw [if_pos rfl]
          exact .mem ⟨by show H7.next + 1 < H7.next + 2; omega, ⟨_, _, _, (z5 (by show H7.next + 1 ≠ h.next + 1; omega)).trans (z3 _ _), rfl⟩, rfl⟩ (by unfold UNK; omega)
  · rw [if_pos he]
    have m1 : numOp .neq (.int .i64 e0) (.int .i64 0) = some (.bool true) := m_neqT he
    refine yM ?_; refine yE ?_; refine yE ?_; refine yM ?_; refine yM ?_; refine y3 ?_; refine wE_seq ?_
    refine y4 ?_; refine yM ?_; refine wO_val (a_num (by exact rfl) (by exact rfl) (by with_reducible assumption)) ?_; refine y3 ?_; refine yY ?_; refine y4 ?_
    refine wO_val (a_build (by exact rfl)) ?_; refine yM ?_; refine yS ?_; refine yM ?_; refine yM ?_; refine yM ?_; refine y3 ?_; refine wE_ret ?_; refine kS_r ?_
    refine endA_ret ?_ (res_cells (own := true) (s := 1) (l := ceL c0) rfl ?_ ck0 rfl rfl) (DouQ.none ⟨c0, [], false, e0⟩ rfl)
    · rw [Heap.log_wr_new (by first | omega | exact Nat.le_succ _)]; exact hL1
    · (simp (disch := first | omega | (simp only [z1, z2]; omega)) only [z3, z4, z5, z6, z7, z1, z2, ga1, g1]; exact rfl)
end Go.A.Pk
end
section
set_option maxRecDepth 100000
namespace Go.A.Pk
variable {T : Nat → Option AFunc}
inductive OwE (lo : Nat) (h : Heap) (sz : Nat) : Value → Nat → List Value → Prop
  | own {v n cs} : Own lo h sz v n cs → OwE lo h sz v n cs
  | lit {b} : lo ≤ b → b < h.next → h.get b = some (.cells [] true sz) → OwE lo h sz (.slice (some ⟨b, 0, none⟩) 0 0) 0 []
theorem OwE.keep {lo sz n : Nat} {h h' : Heap} {v : Value} {cs : List Value} (s : OwE lo h sz v n cs) (hn : h.next ≤ h'.next) (ha : ∀ z, lo ≤ z → z < h.next → h'.get z = h.get z) : OwE lo h' sz v n cs := by
  cases s with
  | own s => exact .own (s.keep hn ha)
  | lit h1 h2 h3 => exact .lit h1 (by omega) ((ha _ h1 h2).trans h3)
theorem OwE.ext {lo sz n : Nat} {h h' : Heap} {v : Value} {cs : List Value} (s : OwE lo h sz v n cs) (x : Ext h h') : OwE lo h' sz v n cs := s.keep x.next fun z _ hz => x.old z hz
section
variable {base : Nat} {rnd : Option Nat} {Q : XQ} {e : Env} {ds : Dfs} {h : Heap} {dst : Option Nat} {os : List AOper} {x y : Operand} {v u : Value} {lo sz n i : Nat} {cs : List Value} {k : IntKind}
end
def ResQ (lo : Nat) (p : List Int × Int) (v : Value) (h : Heap) : Prop := ∃ u, v = .tuple #[u, .int .i64 p.2] ∧ Own lo h 1 u p.1.length (ints p.1)
theorem ResQ.flat {lo : Nat} {p : List Int × Int} {v : Value} {h h' : Heap} (hv : noRef v = true) (q : ResQ lo p v h) : ResQ lo p v h' := by
  obtain ⟨u, rfl, s⟩ := q
  refine ⟨u, rfl, ?_⟩
  generalize p.1.length = m at s ⊢
  generalize ints p.1 = cs at s ⊢
  cases s with
  | nil => exact .nil
  | full h1 h2 h3 h4 h5 =>
    simp [noRef, flatL, scalL, flat, scal, scal1] at hv
    cases hv.1
end Go.A.Pk
end
section
set_option maxRecDepth 100000
namespace Go.A.Pk
variable {T : Nat → Option AFunc}
theorem a_beqF {base : Nat} {h : Heap} {e : Env} {x y : Operand} {a : Bool} (hx : ev h e x = some (.bool a)) (hy : ev h e y = some (.bool a)) : aop h base e (.bin (.beq true) x y) = some (.val (.bool false) h) := by
  rw [a_beq hx hy]
  cases a <;> rfl
theorem c_leaves (c : Ce) : leavesEq [.i .i64, .i .i64, .i .i64] (ceL c).toArray.toList (ceL c).toArray.toList = some true := by
  have h0 : leavesEq [] [] [] = some true := rfl
  have := lv_int (k := .i64) (a := c.x) (b := c.x) (lv_int (k := .i64) (a := c.y) (b := c.y) (lv_int (k := .i64) (a := c.z) (b := c.z) h0))
  simpa [ceL] using this
theorem douR_len (bl : List Nat) (l : List Rd) (day : Int) : (douR bl l day).ids.length ≤ 2 := by
  unfold douR
  split
  · exact Nat.zero_le _
  · generalize inDoubt bl (cntR day l) = cs
    cases cs with
    | nil => exact Nat.zero_le _
    | cons c cs =>
      unfold douS douI
      dsimp only
      split <;> simp
end Go.A.Pk
end
section
set_option maxRecDepth 100000
namespace Go.A.Pk
theorem sHas_meet {a b : List Nat} (ha : IsS a) (hb : IsS b) (c : Ce) : sHas (sMeet a b) c = (sHas a c && sHas b c) := by
  by_cases hc : inG c = true
  · obtain ⟨z, i, hz, hi, rfl⟩ := inG_form hc
    rw [sHas_of hz hi, sHas_of hz hi, sHas_of hz hi]
    unfold sMeet sMap
    rw [getD_zip ha hb hz]
    exact Nat.testBit_and ..
  · rw [sHas_out hc, sHas_out hc, sHas_out hc]; rfl
theorem has_ext {a b : List Nat} (ha : IsS a) (hb : IsS b) (h : ∀ z i, z < 8 → i < 64 → sHas a (ceOf z i) = sHas b (ceOf z i)) : a = b := by
  apply List.ext_getElem?
  intro z
  rcases Nat.lt_or_ge z 8 with hz | hz
  · rw [getD_at (by rw [ha.len]; exact hz), getD_at (by rw [hb.len]; exact hz)]
    congr 1
    apply Nat.eq_of_testBit_eq
    intro i
    rcases Nat.lt_or_ge i 64 with hi | hi
    · have := h z i hz hi
      rwa [sHas_of hz hi, sHas_of hz hi] at this
    · have big : ∀ x : Nat, x < U64 → x.testBit i = false := fun x hx => Nat.testBit_lt_two_pow (Nat.lt_of_lt_of_le hx (show 2 ^ 64 ≤ 2 ^ i from Nat.pow_le_pow_right (by omega) hi))
      rw [big _ (ha.getD_lt z), big _ (hb.getD_lt z)]
  · rw [List.getElem?_eq_none (by rw [ha.len]; exact hz), List.getElem?_eq_none (by rw [hb.len]; exact hz)]
theorem ceOf_mem {z i : Nat} (hz : z < 8) (hi : i < 64) : ceOf z i ∈ (List.range 512).map ceN := by
  rw [← ceN_of hi]
  exact List.mem_map_of_mem (List.mem_range.2 (by omega))
theorem doubt_sIn {bl : List Nat} (hb : IsS bl) {r : List Rd} (hl : ∀ x ∈ r, IsR x) : inDoubt bl r = [] ↔ sIn (seenW bl r).1 (seenW bl r).2 = true := by
  have hw := seenW_ok hb hl
  unfold inDoubt sIn
  generalize seenW bl r = w at *
  rw [decide_eq_true_eq]
  constructor
  · intro h
    refine has_ext (hw.a.meet hw.b) hw.a fun z i hz hi => ?_
    rw [sHas_meet hw.a hw.b]
    have := List.filter_eq_nil_iff.1 h (ceOf z i) (ceOf_mem hz hi)
    rw [sHas_less hw.a hw.b] at this
    revert this
    cases sHas w.1 (ceOf z i) <;> cases sHas w.2 (ceOf z i) <;> simp
  · intro h
    refine List.filter_eq_nil_iff.2 fun c _ => ?_
    rw [sHas_less hw.a hw.b]
    have e : sHas (sMeet w.1 w.2) c = sHas w.1 c := by rw [h]
    rw [sHas_meet hw.a hw.b] at e
    revert e
    cases sHas w.1 c <;> cases sHas w.2 c <;> simp
theorem filter_head {α : Type} {p q : α → Bool} {c : α} (hpq : ∀ x, q x = true → p x = true) (hc : q c = true) : ∀ {l t : List α}, l.filter p = c :: t → ∃ t', l.filter q = c :: t'
  | [], t, h => by cases h
  | a :: l, t, h => by
    rw [List.filter_cons] at h
    by_cases ha : p a = true
    · rw [if_pos ha] at h
      obtain rfl : a = c := by injection h
      exact ⟨_, List.filter_cons_of_pos hc⟩
    · rw [if_neg ha] at h
      have hqa : ¬ q a = true := fun e => ha (hpq a e)
      obtain ⟨t', e⟩ := filter_head hpq hc h
      exact ⟨t', by rw [List.filter_cons_of_neg hqa]; exact e⟩
theorem chkF_zero {l : List Rd} (h : ∀ j r, l[j]? = some r → refR (l.take j) r = 0) : ∀ m i, (chkF refR l m i).2 = 0
  | 0, _ => rfl
  | m + 1, i => by
    rw [chkF]
    cases hi : l[i]? with
    | none => rfl
    | some r =>
      dsimp only
      rw [if_neg (fun q => q (h i r hi))]
      exact chkF_zero h m (i + 1)
theorem refR_ok {l : List Rd} {r : Rd} (h : refR l r = 0) : l.length < 200 ∧ ckOk r = true ∧ (∀ q ∈ l, q.id ≠ r.id) ∧ lateR l r = false := by
  have hck := refR_ck h
  unfold refR at h
  split at h
  · cases h
  · rename_i h1
    split at h
    · cases h
    · split at h
      · cases h
      · rename_i h3
        split at h
        · cases h
        · rename_i h4
          exact ⟨by omega, hck, fun q hq e => h3 (List.any_eq_true.2 ⟨q, hq, decide_eq_true e⟩), by simpa using h4⟩
theorem refR_zero {l : List Rd} {r : Rd} (hk : r.kind ≠ 3) (h1 : l.length < 200) (h2 : ckOk r = true) (h3 : ∀ q ∈ l, q.id ≠ r.id) (h4 : lateR l r = false) : refR l r = 0 := by
  have h5 : ckR r = 0 := by unfold ckR; rw [h2]; rfl
  unfold refR
  rw [if_neg (by omega), if_neg (fun q => q h5), if_neg, h4, if_neg (by simp), if_pos hk]
  intro e
  obtain ⟨q, hq, e⟩ := List.any_eq_true.1 e
  exact h3 q hq (of_decide_eq_true e)
theorem late_step {l : List Rd} (h : (chkR refR l).2 = 0) {j : Nat} (hj : j + 1 < l.length) : l[j].known ≤ l[j + 1].known := by
  have h1 := (refR_ok (chk_all h (List.getElem?_eq_getElem hj))).2.2.2
  unfold lateR at h1
  have e : (l.take (j + 1)).getLast? = some l[j] := by
    rw [List.getLast?_eq_getElem?, List.length_take, Nat.min_eq_left (by omega)]
    simp
  rw [e] at h1
  have := of_decide_eq_false h1
  omega
theorem late_all {l : List Rd} (h : (chkR refR l).2 = 0) {i : Nat} : ∀ {k : Nat} (hk : i + k < l.length), (l[i]'(by omega)).known ≤ l[i + k].known
  | 0, _ => Int.le_refl _
  | k + 1, hk => Int.le_trans (late_all h (k := k) (by omega)) (late_step h (j := i + k) (by omega))
theorem chk_pair {l : List Rd} (h : (chkR refR l).2 = 0) : l.Pairwise fun a b => a.id ≠ b.id ∧ a.known ≤ b.known := by
  refine List.pairwise_iff_getElem.2 fun i j hi hj hij => ⟨?_, ?_⟩
  · refine (refR_ok (chk_all h (List.getElem?_eq_getElem hj))).2.2.1 l[i] ?_
    refine List.mem_of_getElem? (i := i) ?_
    rw [List.getElem?_take_of_lt hij, List.getElem?_eq_getElem hi]
  · obtain ⟨k, rfl⟩ : ∃ k, j = i + k := ⟨j - i, by omega⟩
    exact late_all h hj
theorem chk_len {l : List Rd} (h : (chkR refR l).2 = 0) : l.length ≤ 200 := by
  rcases Nat.eq_zero_or_pos l.length with h0 | h0
  · omega
  · have := (refR_ok (chk_all h (List.getElem?_eq_getElem (show l.length - 1 < l.length by omega)))).1
    rw [List.length_take] at this
    omega
theorem chk_sub {l m : List Rd} (h : (chkR refR l).2 = 0) (hs : m.Sublist l) (hk : ∀ r ∈ m, r.kind ≠ 3) : (chkR refR m).2 = 0 := by
  have hp := (chk_pair h).sublist hs
  have hlen := hs.length_le
  have hl2 := chk_len h
  refine chkF_zero (fun j r hj => ?_) _ _
  have hjl := (List.getElem?_eq_some_iff.1 hj).1
  have hr : r ∈ m := List.mem_of_getElem? hj
  have hq : ∀ q ∈ m.take j, q.id ≠ r.id ∧ q.known ≤ r.known := by
    intro q hq
    obtain ⟨i, hi⟩ := List.getElem?_of_mem hq
    have hil := (List.getElem?_eq_some_iff.1 hi).1
    rw [List.length_take] at hil
    rw [List.getElem?_take_of_lt (by omega)] at hi
    obtain ⟨a1, rfl⟩ := List.getElem?_eq_some_iff.1 hi
    obtain ⟨a2, rfl⟩ := List.getElem?_eq_some_iff.1 hj
    exact List.pairwise_iff_getElem.1 hp i j a1 a2 (by omega)
  refine refR_zero (hk r hr) (by rw [List.length_take]; omega) ?_ (fun q h => (hq q h).1) ?_
  · obtain ⟨i, hi⟩ := List.getElem?_of_mem (hs.subset hr)
    exact (refR_ok (chk_all h hi)).2.1
  · unfold lateR
    cases hg : (m.take j).getLast? with
    | none => rfl
    | some q =>
      have := (hq q (List.mem_of_getLast? hg)).2
      exact decide_eq_false (by omega)
theorem cnt_self {m : List Rd} {day : Int} (hk : ∀ r ∈ m, r.kind ≠ 3 ∧ r.known ≤ day) : cntR day m = m := by
  refine List.filter_eq_self.2 fun r hr => ?_
  unfold cntQ gone
  rw [decide_eq_true (hk r hr).1, decide_eq_true (hk r hr).2]
  have : (m.any fun q => (decide (q.kind = 3) && decide (q.known ≤ day)) && decide (q.of = r.id)) = false := by
    rw [List.any_eq_false]
    intro q hq
    rw [decide_eq_false (hk q hq).1]
    simp
  rw [this]; rfl
def pickR (ids : List Int) (r : Rd) : List Rd := (ids.filter fun i => decide (r.id = i)).map fun _ => r
def someR (ids : List Int) (l : List Rd) : List Rd := l.flatMap (pickR ids)
theorem some_filter {ids : List Int} (hn : ids.Nodup) : ∀ l : List Rd, someR ids l = l.filter fun r => decide (r.id ∈ ids)
  | [] => rfl
  | r :: l => by
    have e1 : pickR ids r = if r.id ∈ ids then [r] else [] := by
      unfold pickR
      by_cases h : r.id ∈ ids
      · rw [if_pos h]
        have : ids.filter (fun i => decide (r.id = i)) = [r.id] := by
          induction ids with
          | nil => cases h
          | cons i ids ih =>
            obtain ⟨h1, h2⟩ := List.nodup_cons.1 hn
            rw [List.filter_cons]
            by_cases hi : r.id = i
            · rw [if_pos (decide_eq_true hi)]
              have : ids.filter (fun i => decide (r.id = i)) = [] := List.filter_eq_nil_iff.2 fun k hk e => h1 (by rw [← hi, of_decide_eq_true e]; exact hk)
              rw [this, hi]
            · rw [if_neg (by simpa using hi)]
              rcases List.mem_cons.1 h with e | h
              · exact absurd e hi
              · exact ih h2 h
        rw [this]; rfl
      · rw [if_neg h]
        have : ids.filter (fun i => decide (r.id = i)) = [] := List.filter_eq_nil_iff.2 fun k hk e => h (by rw [of_decide_eq_true e]; exact hk)
        rw [this]; rfl
    show pickR ids r ++ someR ids l = _
    rw [some_filter hn l, e1, List.filter_cons]
    by_cases h : r.id ∈ ids
    · rw [if_pos h, if_pos (decide_eq_true h)]; rfl
    · rw [if_neg h, if_neg (by simpa using h)]; rfl
theorem id_eq {l : List Rd} (h : l.Pairwise fun a b => a.id ≠ b.id ∧ a.known ≤ b.known) {a b : Rd} (ha : a ∈ l) (hb : b ∈ l) (e : a.id = b.id) : a = b := by
  obtain ⟨i, hi, rfl⟩ := List.getElem_of_mem ha
  obtain ⟨j, hj, rfl⟩ := List.getElem_of_mem hb
  rcases Nat.lt_trichotomy i j with h1 | h1 | h1
  · exact absurd e (List.pairwise_iff_getElem.1 h i j hi hj h1).1
  · subst h1; rfl
  · exact absurd e.symm (List.pairwise_iff_getElem.1 h j i hj hi h1).1
theorem filt_len : ∀ {l : List Rd} {ids : List Int}, (l.Pairwise fun a b => a.id ≠ b.id ∧ a.known ≤ b.known) → ids.Nodup → (∀ i ∈ ids, ∃ r ∈ l, r.id = i) → (l.filter fun r => decide (r.id ∈ ids)).length = ids.length
  | l, [], _, _, _ => by simp
  | l, i :: ids, hp, hn, hm => by
    obtain ⟨h1, h2⟩ := List.nodup_cons.1 hn
    have ih := filt_len hp h2 fun k hk => hm k (List.mem_cons_of_mem _ hk)
    obtain ⟨r, hr, rfl⟩ := hm i List.mem_cons_self
    have one : ∀ {l : List Rd}, (l.Pairwise fun a b => a.id ≠ b.id ∧ a.known ≤ b.known) → (l.filter fun x => decide (x.id ∈ r.id :: ids)).length = (l.filter fun x => decide (x.id = r.id)).length + (l.filter fun x => decide (x.id ∈ ids)).length := by
      intro l _
      induction l with
      | nil => rfl
      | cons x l ih =>
        rename_i hpl
        have ih := ih (List.pairwise_cons.1 hpl).2
        simp only [List.filter_cons]
        by_cases e1 : x.id = r.id
        · have e2 : ¬ x.id ∈ ids := e1 ▸ h1
          simp only [e1, h1, List.mem_cons, true_or, decide_true, if_true, decide_false, Bool.false_eq_true, if_false, List.length_cons]
          simp only [List.mem_cons] at ih
          omega
        · simp only [e1, List.mem_cons, false_or, decide_false, Bool.false_eq_true, if_false]
          simp only [List.mem_cons] at ih
          by_cases e2 : x.id ∈ ids
          · simp only [e2, decide_true, if_true, List.length_cons]
            omega
          · simp only [e2, decide_false, Bool.false_eq_true, if_false]
            exact ih
    have two : ∀ {l : List Rd}, (l.Pairwise fun a b => a.id ≠ b.id ∧ a.known ≤ b.known) → r ∈ l → (l.filter fun x => decide (x.id = r.id)).length = 1 := by
      intro l hpl hr
      induction l with
      | nil => cases hr
      | cons x l ih =>
        obtain ⟨p1, p2⟩ := List.pairwise_cons.1 hpl
        rw [List.filter_cons]
        rcases List.mem_cons.1 hr with rfl | hr
        · rw [if_pos (decide_eq_true rfl)]
          have : l.filter (fun x => decide (x.id = r.id)) = [] := List.filter_eq_nil_iff.2 fun k hk e => (p1 k hk).1 (of_decide_eq_true e).symm
          rw [this]; rfl
        · rw [if_neg (by simpa using (p1 r hr).1)]
          exact ih p2 hr
    rw [one hp, two hp hr, ih, List.length_cons]
    omega
theorem doubt_law {bl : List Nat} (hb : IsS bl) {l : List Rd} (hl : ∀ x ∈ l, IsR x) {day : Int} (hchk : (chkR refR l).2 = 0) {c : Ce} {cs : List Ce} (hc : inDoubt bl (cntR day l) = c :: cs) :
    ∃ m, m = someR (douI bl (cntR day l) c) l ∧ m.length = (douI bl (cntR day l) c).length ∧ (∀ x ∈ m, sHas x.cells c = true) ∧ (∀ x ∈ m, IsR x) ∧ (chkR refR m).2 = 0 ∧ cntR day m = m ∧ ∃ t, inDoubt bl m = c :: t := by
  refine ⟨_, rfl, ?_⟩
  have hr : ∀ x ∈ cntR day l, x ∈ l ∧ x.kind ≠ 3 ∧ x.known ≤ day := fun x hx => by
    obtain ⟨h1, h2⟩ := List.mem_filter.1 hx
    unfold cntQ at h2
    rw [Bool.and_eq_true, Bool.and_eq_true] at h2
    exact ⟨h1, of_decide_eq_true h2.1.1, of_decide_eq_true h2.1.2⟩
  have hlr : ∀ x ∈ cntR day l, IsR x := fun x hx => hl x (hr x hx).1
  have hkd : ∀ x ∈ cntR day l, x.kind = 1 ∨ x.kind = 2 := fun x hx => cnt_kind hchk hx
  have hcm : c ∈ inDoubt bl (cntR day l) := by rw [hc]; exact List.mem_cons_self
  have hpair := chk_pair hchk
  have first : ∀ k y, havR k c (cntR day l) = firstI k c (cntR day l) :: y → ∃ r ∈ cntR day l, havQ k c r = true ∧ r.id = firstI k c (cntR day l) := by
    intro k y h
    have : firstI k c (cntR day l) ∈ havR k c (cntR day l) := by rw [h]; exact List.mem_cons_self
    obtain ⟨r, h1, h2⟩ := List.mem_map.1 this
    obtain ⟨h3, h4⟩ := List.mem_filter.1 h1
    exact ⟨r, h3, h4, h2⟩
  obtain ⟨yq1, e1⟩ := dou_seen hb hlr hcm
  obtain ⟨r1, m1, q1, i1⟩ := first 1 yq1 e1
  have kind1 : r1.kind = 1 ∧ sHas r1.cells c = true := by
    unfold havQ at q1
    rw [Bool.and_eq_true] at q1
    exact ⟨by simpa using q1.1, q1.2⟩
  have hw := seenW_ok hb hlr
  have hD : ∀ m : List Rd, (∀ x ∈ m, IsR x) → ∀ x, sHas (sLess (seenW bl m).1 (seenW bl m).2) x = ((m.any fun r => decide (r.kind = 1) && sHas r.cells x) && !(sHas bl x && !m.any fun r => !decide (r.kind = 1) && sHas r.cells x)) := fun m hm x => by
    have hw := seenW_ok hb hm
    rw [sHas_less hw.a hw.b, (seen_has hb hm x).1, (seen_has hb hm x).2]
  have key : ∀ m : List Rd, (∀ x ∈ m, x ∈ cntR day l) → r1 ∈ m → (sHas bl c = true → ∃ r2 ∈ m, r2.kind = 2 ∧ sHas r2.cells c = true) → ∃ t, inDoubt bl m = c :: t := by
    intro m hm hr1 hr2
    have hmR : ∀ x ∈ m, IsR x := fun x hx => hlr x (hm x hx)
    refine filter_head (p := sHas (sLess (seenW bl (cntR day l)).1 (seenW bl (cntR day l)).2)) (fun x hx => ?_) ?_ hc
    · rw [hD _ hmR] at hx
      rw [hD _ hlr]
      have mono : ∀ f : Rd → Bool, m.any f = true → (cntR day l).any f = true := fun f h => by
        obtain ⟨a, ha, e⟩ := List.any_eq_true.1 h
        exact List.any_eq_true.2 ⟨a, hm a ha, e⟩
      rw [Bool.and_eq_true] at hx ⊢
      refine ⟨mono _ hx.1, ?_⟩
      have h2 := hx.2
      cases hbx : sHas bl x with
      | false => rfl
      | true =>
        rw [hbx, Bool.true_and, Bool.not_not] at h2
        rw [mono _ h2]; rfl
    · rw [hD _ hmR, Bool.and_eq_true]
      refine ⟨List.any_eq_true.2 ⟨r1, hr1, by rw [decide_eq_true kind1.1, kind1.2]; rfl⟩, ?_⟩
      cases hbc : sHas bl c with
      | false => rfl
      | true =>
        obtain ⟨r2, h1, h2, h3⟩ := hr2 hbc
        have : (m.any fun r => !decide (r.kind = 1) && sHas r.cells c) = true := List.any_eq_true.2 ⟨r2, h1, by rw [h2, h3]; rfl⟩
        rw [this]; rfl
  have fin : ∀ ids : List Int, ids.Nodup → (∀ i ∈ ids, ∃ r ∈ cntR day l, r.id = i ∧ sHas r.cells c = true) → r1.id ∈ ids → (sHas bl c = true → ∃ r2 ∈ cntR day l, r2.id ∈ ids ∧ r2.kind = 2 ∧ sHas r2.cells c = true) →
      (someR ids l).length = ids.length ∧ (∀ x ∈ someR ids l, sHas x.cells c = true) ∧ (∀ x ∈ someR ids l, IsR x) ∧ (chkR refR (someR ids l)).2 = 0 ∧ cntR day (someR ids l) = someR ids l ∧ ∃ t, inDoubt bl (someR ids l) = c :: t := by
    intro ids hn hm h1 h2
    rw [some_filter hn]
    have hin : ∀ x ∈ l.filter (fun r => decide (r.id ∈ ids)), x ∈ cntR day l ∧ sHas x.cells c = true := by
      intro x hx
      obtain ⟨hx1, hx2⟩ := List.mem_filter.1 hx
      obtain ⟨r, g1, g2, g3⟩ := hm x.id (of_decide_eq_true hx2)
      obtain rfl := id_eq hpair hx1 (hr r g1).1 g2.symm
      exact ⟨g1, g3⟩
    have hto : ∀ r ∈ cntR day l, r.id ∈ ids → r ∈ l.filter (fun r => decide (r.id ∈ ids)) := fun r h1 h2 => List.mem_filter.2 ⟨(hr r h1).1, decide_eq_true h2⟩
    refine ⟨filt_len hpair hn fun i hi => ?_, fun x hx => (hin x hx).2, fun x hx => hlr x (hin x hx).1, chk_sub hchk List.filter_sublist fun x hx => (hr x (hin x hx).1).2.1, cnt_self fun x hx => (hr x (hin x hx).1).2, key _ (fun x hx => (hin x hx).1) (hto r1 m1 h1) fun hbc => ?_⟩
    · obtain ⟨r, g1, g2, _⟩ := hm i hi
      exact ⟨r, (hr r g1).1, g2⟩
    · obtain ⟨r2, g1, g2, g3, g4⟩ := h2 hbc
      exact ⟨r2, hto r2 g1 g2, g3, g4⟩
  unfold douI
  cases hbc : sHas bl c with
  | false =>
    rw [if_neg (by simp)]
    refine fin _ (by simp) (fun i hi => ?_) (by rw [i1]; exact List.mem_cons_self) (fun e => by rw [hbc] at e; cases e)
    obtain rfl := List.mem_singleton.1 hi
    exact ⟨r1, m1, i1, kind1.2⟩
  | true =>
    rw [if_pos rfl]
    obtain ⟨yq2, e2⟩ := dou_bare hb hlr hkd hcm hbc
    obtain ⟨r2, m2, q2, i2⟩ := first 2 yq2 e2
    have kind2 : r2.kind = 2 ∧ sHas r2.cells c = true := by
      unfold havQ at q2
      rw [Bool.and_eq_true] at q2
      exact ⟨by simpa using q2.1, q2.2⟩
    have hne : firstI 1 c (cntR day l) ≠ firstI 2 c (cntR day l) := by
      intro e
      rw [← i1, ← i2] at e
      have := id_eq hpair (hr r1 m1).1 (hr r2 m2).1 e
      rw [this, kind2.1] at kind1
      cases kind1.1
    refine fin _ (by simp [hne]) (fun i hi => ?_) (by rw [i1]; exact List.mem_cons_self) (fun _ => ⟨r2, m2, by rw [i2]; simp, kind2.1, kind2.2⟩)
    rcases List.mem_cons.1 hi with rfl | hi
    · exact ⟨r1, m1, i1, kind1.2⟩
    · obtain rfl := List.mem_singleton.1 hi
      exact ⟨r2, m2, i2, kind2.2⟩
end Go.A.Pk
end
section
set_option maxRecDepth 100000
namespace Go.A.Pk
variable {T : Nat → Option AFunc}
theorem pick_le (ids : List Int) (r : Rd) : (pickR ids r).length ≤ ids.length := by
  unfold pickR
  rw [List.length_map]; exact List.length_filter_le ..
theorem some_le (ids : List Int) : ∀ l : List Rd, (someR ids l).length ≤ l.length * ids.length
  | [] => by simp [someR]
  | r :: l => by
    have h1 := pick_le ids r
    have h2 := some_le ids l
    show (pickR ids r ++ someR ids l).length ≤ (l.length + 1) * ids.length
    rw [List.length_append, Nat.add_mul]; omega
theorem some_step {ids : List Int} {l : List Rd} {i : Nat} {r : Rd} (hi : l[i]? = some r) : someR ids (l.take (i + 1)) = someR ids (l.take i) ++ pickR ids r := by
  obtain ⟨hlt, rfl⟩ := List.getElem?_eq_some_iff.1 hi
  rw [List.take_succ_eq_append_getElem hlt, someR, List.flatMap_append]; simp [someR]
theorem pick_step {ids : List Int} {k : Nat} {x : Int} (hk : ids[k]? = some x) (r : Rd) : pickR (ids.take (k + 1)) r = pickR (ids.take k) r ++ (if r.id = x then [r] else []) := by
  obtain ⟨q, rfl⟩ := List.getElem?_eq_some_iff.1 hk
  unfold pickR
  rw [List.take_succ_eq_append_getElem q, List.filter_append, List.map_append]
  by_cases h : r.id = ids[k]
  · rw [if_pos h]; simp [h]
  · rw [if_neg h]; simp [h]
theorem dou_cases {bl : List Nat} (hb : IsS bl) {l : List Rd} (hl : ∀ x ∈ l, IsR x) (day : Int) :
    ((douR bl l day).e ≠ 0 ∧ (knoR bl l day).2 = (douR bl l day).e ∧ (douR bl l day).is = false) ∨
    ((douR bl l day).e = 0 ∧ (knoR bl l day).2 = 0 ∧ (douR bl l day).is = false ∧ (douR bl l day).ids = []) ∨
    ((douR bl l day).e = 0 ∧ (knoR bl l day).2 = 80 ∧ (douR bl l day).is = true ∧ ∃ m, m = someR (douR bl l day).ids l ∧ m.length = (douR bl l day).ids.length ∧ 0 < m.length ∧ (∀ x ∈ m, sHas x.cells (douR bl l day).c = true) ∧ (∀ x ∈ m, IsR x) ∧ (douR bl m day).c = (douR bl l day).c ∧ (douR bl m day).is = true ∧ (douR bl m day).e = 0) := by
  have hr : ∀ x ∈ cntR day l, IsR x := fun x hx => hl x (List.mem_filter.1 hx).1
  have hd := doubt_sIn hb hr
  by_cases he : (chkR refR l).2 = 0
  · right
    cases hc : inDoubt bl (cntR day l) with
    | nil =>
      left
      have hs := hd.1 hc
      unfold douR knoR
      rw [if_neg (fun q => q he), if_neg (fun q => q he), hc, if_pos hs]
      exact ⟨rfl, rfl, rfl, rfl⟩
    | cons c cs =>
      right
      have hs : ¬ sIn (seenW bl (cntR day l)).1 (seenW bl (cntR day l)).2 = true := fun q => by rw [hd.2 q] at hc; cases hc
      obtain ⟨m, h1, h2, h3, h4, h5, h6, t, h7⟩ := doubt_law hb hl he hc
      have e1 : douR bl l day = ⟨c, douI bl (cntR day l) c, true, 0⟩ := by
        unfold douR
        rw [if_neg (fun q => q he), hc]; rfl
      have e2 : douR bl m day = ⟨c, douI bl m c, true, 0⟩ := by
        unfold douR
        rw [if_neg (fun q => q h5), h6, h7]; rfl
      have e3 : (knoR bl l day).2 = 80 := by
        unfold knoR
        rw [if_neg (fun q => q he), if_neg hs]
      rw [e1]
      refine ⟨rfl, e3, rfl, m, h1, h2, ?_, h3, h4, ?_⟩
      · rw [h2]; exact Nat.succ_pos _
      · rw [e2]; exact ⟨rfl, rfl, rfl⟩
  · left
    unfold douR knoR
    rw [if_pos he, if_pos he]
    exact ⟨he, rfl, rfl⟩
structure FnsL6 (T : Nat → Option AFunc) : Prop where
  d6 : FnsD6 T
  f6 : T 6 = some f6
  f21 : T 21 = some (.prim pSd)
theorem InS.ext' {h h' : Heap} {v : Value} {l : List Int} (s : InS h v l) (x : Ext h h') : InS h' v l := SliceOf.ext s x
set_option maxHeartbeats 32000000 in
theorem law6 (F : FnsL6 T) {h : Heap} (hr : Rdy h) (hg : Tab h) (h2 : 2 < h.next) {bl : List Nat} (hb : IsS bl) {a : Option Addr} {n c : Nat} {l : List Rd} (s : RdS h (.slice a n c) l) (day : Int) :
    Pu T 6 [sv bl, .slice a n c, .int .i64 day] h (.bool true) := by
  have hp := F.d6.k7.sn.p
  refine .of hp F.f6 hr rfl ?_
  obtain rfl := s.len
  have k8 := us_llen hb.len
  have k9 := us_take8 hb.len
  have g0 : (h.push (.cells (cellsOf (sv bl)) true 1)).get h.next = some (.cells (us bl) true 1) := z3 h _
  have n0 : (h.push (.cells (cellsOf (sv bl)) true 1)).next = h.next + 1 := rfl
  have x0 : Ext h (h.push (.cells (cellsOf (sv bl)) true 1)) := (Ext.refl h).push _
  refine y4 ?_; refine yB ?_; refine yM ?_; refine y3 ?_
  generalize (h.push (.cells (cellsOf (sv bl)) true 1)) = H at *
  have hL : H.log = [] := x0.log.trans hr.log
  have W := x0.wf hr.wf
  have hgH : Tab H := hg.ext x0 h2
  have C0 : Pu T 21 [] { H with log := [] } (.bool true) := puSd F.f21 hgH
  by_cases hn : 40 < l.length
  · refine wE_seq ?_; refine y4 ?_; refine yM ?_; refine yD ?_; refine yt ?_; refine y3 ?_; refine yY ?_
    refine y4 ?_
    refine yC ?_
    refine FW.pu C0 ?_
    refine yM ?_; refine y3 ?_; refine wE_ret ?_; refine kS_r ?_
    exact endP_ret hL rfl rfl
  clear C0
  have K1 := doubt36 F.d6 (h := { H with log := [] }) (.of W) hgH (by show 2 < H.next; omega) hb ((s.ext x0).log []) (by omega) day
  have K2' := fun {H' : Heap} (hr' : Rdy H') (s' : RdS H' (.slice a l.length c) l) => known37 F.d6.k7 hr' hb s' (by omega) day
  have hdl := douR_len bl l day
  have hcase := dou_cases hb s.ok day
  have hw : IsW (knoR bl l day).1 := by
    unfold knoR
    split
    · exact w0_ok
    · split
      · exact seenW_ok hb fun z hz => s.ok z (List.mem_filter.1 hz).1
      · exact w0_ok
  unfold knoV at K2'
  generalize (knoR bl l day).1 = w at *
  generalize (knoR bl l day).2 = e1 at *
  generalize douR bl l day = p at *
  have wl := wL_length hw
  have wo := wL_ones w
  refine wE_seq ?_; refine y4 ?_; refine yM ?_; refine yD ?_; refine yf ?_; refine y3 ?_; refine yX ?_
  refine wE_skip ?_; refine kS_n ?_; refine y4 ?_; refine wO_val (a_loadN (by exact rfl) (by assumption) (by assumption) (by assumption)) ?_; refine yM ?_; refine yM ?_
  refine yC ?_
  refine FW.al K1 (fun v h' m q => by obtain ⟨u, e, s⟩ := q; exact ⟨u, e, s.log m⟩) ?_
  rintro _ H1 x1 ⟨u1, rfl, s1⟩
  clear K1
  have n1 := x1.next
  have hL1 := x1.log.trans hL
  have x2 := ext_pw (h := H1) (base := h.next) (by omega) (.cells [I.O, I.O, I.O] true 1) (.cells (lputs [I.O, I.O, I.O] 0 (cellsOf (ceV p.c))) true 1)
  have q2 : ((H1.push (.cells [I.O, I.O, I.O] true 1)).wr h.next H1.next (.cells (lputs [I.O, I.O, I.O] 0 (cellsOf (ceV p.c))) true 1)).get H1.next = some (.cells (ceL p.c) true 1) := get_pw _ _
  have n2 : ((H1.push (.cells [I.O, I.O, I.O] true 1)).wr h.next H1.next (.cells (lputs [I.O, I.O, I.O] 0 (cellsOf (ceV p.c))) true 1)).next = H1.next + 1 := rfl
  refine yM ?_; refine yE ?_; refine yE ?_; refine yE ?_; refine yE ?_; refine wO_val (a_new) ?_
  refine yS ?_; refine yM ?_; refine yM ?_
  refine yM ?_; refine y3 ?_
  generalize ((H1.push (.cells [I.O, I.O, I.O] true 1)).wr h.next H1.next (.cells (lputs [I.O, I.O, I.O] 0 (cellsOf (ceV p.c))) true 1)) = H2 at *
  have ey2' := (x0.trans x1).trans x2
  have W2 := ey2'.wf hr.wf
  have hL2 := ey2'.log.trans hr.log
  have g2 := ((x1.trans x2).old _ (by omega)).trans g0
  have s2 := InS.ext' s1 x2
  have K2 := K2' (.of W2) ((s.ext ey2').log [])
  clear K2' g0 s1
  refine y4 ?_; refine wO_val (a_loadN (by exact rfl) (by assumption) (by assumption) (by assumption)) ?_; refine yM ?_; refine yM ?_
  refine yC ?_
  refine FW.pu K2 ?_
  clear K2
  have x3 := ext_pw (h := H2) (base := h.next) (by omega) (.cells (lrep 16 (.int .u64 0)) true 1) (.cells (wL w) true 1)
  have n3 : ((H2.push (.cells (lrep 16 (.int .u64 0)) true 1)).wr h.next H2.next (.cells (wL w) true 1)).next = H2.next + 1 := rfl
  refine yM ?_; refine yE ?_; refine yE ?_; refine wO_val (a_new) ?_
  refine wO_val (a_storeAll (by exact rfl) (by exact rfl) (by (simp (disch := first | omega | (simp only [z1, z2]; omega)) only [z3, z4, z5, z6, z7, z1, z2, q2, g2]; exact rfl)) (by assumption) (by exact rfl) (by assumption)) ?_; refine yM ?_; refine y3 ?_
  generalize ((H2.push (.cells (lrep 16 (.int .u64 0)) true 1)).wr h.next H2.next (.cells (wL w) true 1)) = H3 at *
  have ey3' := ey2'.trans x3
  have W3 := ey3'.wf hr.wf
  have hL3 := ey3'.log.trans hr.log
  have g3 := (x3.old _ (by omega)).trans g2
  have q3 := (x3.old _ (by omega)).trans q2
  have s3 := InS.ext' s2 x3
  have hg3 : Tab H3 := hg.ext ey3' h2
  have C0 : Pu T 21 [] { H3 with log := [] } (.bool true) := puSd F.f21 hg3
  clear g2 q2 s2 hw wl wo
  obtain ⟨pc, pids, pis, pe⟩ := p
  dsimp only at *
  obtain ⟨a3, c3, rfl⟩ := s3.form
  rcases hcase with ⟨h1, h2', h3⟩ | ⟨h1, h2', h3, h4⟩ | ⟨h1, h2', h3, m, m1, m2, m3, m4, m5, m6, m7, m8⟩
  · subst h2' h3
    have d1 : numOp .neq (.int .i64 e1) (.int .i64 0) = some (.bool true) := m_neqT h1
    have d2 : numOp .eql (.int .i64 e1) (.int .i64 e1) = some (.bool true) := m_eqlT rfl
    refine wE_seq ?_; refine y4 ?_; refine yM ?_; refine wO_val (a_num (by exact rfl) (by exact rfl) (by with_reducible assumption)) ?_; refine y3 ?_; refine yY ?_; refine y4 ?_
    refine yC ?_
    refine FW.pu C0 ?_
    refine yM ?_; refine yO ?_; refine yM ?_; refine yO ?_; refine yM ?_; refine yO ?_; refine wO_val (a_num (by exact rfl) (by exact rfl) (by with_reducible assumption)) ?_; refine yT ?_
    refine yM ?_; refine yO ?_; refine yM ?_; refine yO ?_; refine yA ?_; refine yT ?_; refine yM ?_; refine y3 ?_; refine wE_ret ?_; refine kS_r ?_
    exact endP_ret hL3 rfl rfl
  · subst h1 h2' h3 h4
    refine wE_seq ?_; refine y4 ?_; refine yM ?_; refine yf ?_; refine y3 ?_; refine yX ?_; refine wE_skip ?_; refine kS_n ?_
    refine wE_seq ?_; refine y4 ?_; refine yM ?_; refine yM ?_; refine yf ?_; refine wO_val (a_beqF (by exact rfl) (by exact rfl)) ?_; refine yM ?_; refine yO ?_; refine yM ?_
    refine yO ?_; refine yA ?_; refine yO ?_; refine yM ?_; refine yO ?_; refine yM ?_; refine yO ?_; refine yf ?_; refine yO ?_
    refine yT ?_; refine yU ?_; refine y3 ?_; refine yX ?_; refine wE_skip ?_; refine kS_n ?_; refine wE_seq ?_; refine y4 ?_
    refine yM ?_; refine yA ?_; refine y3 ?_; refine yY ?_; refine y4 ?_
    refine yC ?_
    refine FW.pu C0 ?_
    refine yM ?_; refine yO ?_; refine yM ?_; refine yO ?_; refine yD ?_; refine yO ?_; refine wO_val (a_num (by exact rfl) (by exact rfl) (by exact m_eql)) ?_; refine yT ?_; refine yM ?_
    refine y3 ?_; refine wE_ret ?_; refine kS_r ?_
    exact endP_ret hL3 rfl rfl
  clear C0
  subst h1 h2' h3
  refine wE_seq ?_; refine y4 ?_; refine yM ?_; refine yf ?_; refine y3 ?_; refine yX ?_; refine wE_skip ?_; refine kS_n ?_
  refine wE_seq ?_; refine y4 ?_; refine yM ?_; refine yM ?_; refine yt ?_; refine wO_val (a_beqF (by exact rfl) (by exact rfl)) ?_; refine yM ?_; refine yO ?_; refine yM ?_
  refine yO ?_; refine yA ?_; refine yO ?_; refine yM ?_; refine yP ?_; refine yP ?_; refine yO ?_; refine yU ?_; refine yU ?_
  refine y3 ?_; refine yX ?_; refine wE_skip ?_; refine kS_n ?_; refine wE_seq ?_; refine y4 ?_; refine yM ?_; refine yA ?_; refine y3 ?_; refine yX ?_; refine wE_skip ?_; refine kS_n ?_; refine y4 ?_; refine yM ?_; refine y3 ?_
  refine wE_seq ?_; refine y4 ?_; refine yM ?_; refine y3 ?_; refine wE_block ?_
  refine wE_loop (fun k e ds h' => ∃ (i : Nat) (v : Value), i ≤ l.length ∧ l.length - i = k ∧ e = [(1, .slice a l.length c), (2, .int .i64 day), (3, .pointer (some ⟨h.next, 0, none⟩)), (7, .pointer (some ⟨H1.next, 0, none⟩)), (8, .slice a3 pids.length c3), (13, v), (14, .int .i64 (i : Nat))] ∧ ds = [] ∧ Ext H3 h' ∧ Own H3.next h' 12 v (someR pids (l.take i)).length (rsL (someR pids (l.take i))))
    ⟨0, _, Nat.zero_le _, rfl, rfl, rfl, .refl H3, .nil⟩ ?_
  rintro k e ds H4 ⟨i, v, hin, rfl, rfl, rfl, x4, ow⟩
  by_cases hlt : i < l.length
  · obtain ⟨r, hri⟩ : ∃ r, l[i]? = some r := ⟨l[i], List.getElem?_eq_getElem hlt⟩
    have hR := s.ok r (List.mem_of_getElem? hri)
    have hst := some_step (ids := pids) hri
    have hle : (someR pids (l.take i)).length ≤ 40 * 2 := Nat.le_trans (some_le pids _) (Nat.mul_le_mul (by rw [List.length_take]; omega) hdl)
    have hRt : ∀ x ∈ someR pids (l.take i), IsR x := by
      intro x hx
      obtain ⟨y, hy, hx⟩ := List.mem_flatMap.1 hx
      unfold pickR at hx
      obtain ⟨_, _, rfl⟩ := List.mem_map.1 hx
      exact s.ok y (List.mem_of_mem_take hy)
    generalize someR pids (l.take i) = S at *
    refine wE_seq ?_; refine y4 ?_; refine yM ?_; refine yM ?_; refine yD ?_; refine yt ?_; refine y3 ?_
    refine yY ?_; refine wE_skip ?_; refine kS_n ?_; refine wE_seq ?_; refine wE_block ?_; refine y4 ?_; refine yM ?_; refine y3 ?_; refine wE_block ?_
    refine wE_loop (fun k e ds h' => ∃ (j : Nat) (v : Value), j ≤ pids.length ∧ pids.length - j = k ∧ e = [(1, .slice a l.length c), (2, .int .i64 day), (3, .pointer (some ⟨h.next, 0, none⟩)), (7, .pointer (some ⟨H1.next, 0, none⟩)), (8, .slice a3 pids.length c3), (13, v), (14, .int .i64 (i : Nat)), (15, .int .i64 (j : Nat))] ∧ ds = [] ∧ Ext H3 h' ∧ Own H3.next h' 12 v (S ++ pickR (pids.take j) r).length (rsL (S ++ pickR (pids.take j) r)))
      ⟨0, v, Nat.zero_le _, rfl, rfl, rfl, x4, by simpa [pickR] using ow⟩ ?_
    clear x4 ow
    rintro k e ds H5 ⟨j, v, hjn, rfl, rfl, rfl, x5, ow⟩
    have W5 := x5.wf W3
    have hL5 := x5.log.trans hL3
    have n5 := x5.next
    by_cases hjt : j < pids.length
    · obtain ⟨b, o, vs, own, t, rfl, e1, e2, hbb, _⟩ := (s.ext (ey3'.trans x5)).elem hri
      obtain ⟨x, hx⟩ : ∃ x, pids[j]? = some x := ⟨pids[j], List.getElem?_eq_getElem hjt⟩
      obtain ⟨b2, o2, vs2, own2, t2, rfl, j1, j2⟩ := InS.elem (InS.ext' s3 x5) hx
      have f1 := e2.id
      have k1 := e2.all
      have k2 := rdL_llen hR
      have rl2 := rdL_length hR
      have hps := pick_step hx r
      have hple := pick_le (pids.take j) r
      have hjl : (pids.take j).length ≤ 2 := by rw [List.length_take]; omega
      by_cases hid : r.id = x
      · rw [if_pos hid] at hps
        have d1 : numOp .eql (.int .i64 r.id) (.int .i64 x) = some (.bool true) := m_eqlT hid
        refine wE_seq ?_; refine y4 ?_; refine yM ?_; refine yM ?_; refine yD ?_; refine yt ?_; refine y3 ?_
        refine yY ?_; refine wE_skip ?_; refine kS_n ?_; refine wE_seq ?_; refine wE_block ?_; refine wE_seq ?_; refine wE_draw ?_; refine qM ?_; refine qM ?_
        refine wD_quiet rfl rfl rfl (by exact rfl) (by exact rfl) (by exact rfl) (a_iaddrS (by exact rfl) (by exact rfl) (by omega)) ?_; refine qF ?_; refine wD_quiet rfl rfl rfl (by exact rfl) (by exact rfl) (by exact rfl) (a_load (by exact rfl) (by assumption) (by assumption)) ?_
        refine qM ?_; refine qM ?_; refine wD_quiet rfl rfl rfl (by exact rfl) (by exact rfl) (by exact rfl) (a_iaddrS (by exact rfl) (by exact rfl) (by omega)) ?_
        refine wD_quiet rfl rfl rfl (by exact rfl) (by exact rfl) (by exact rfl) (a_load (by exact rfl) (by assumption) (by assumption)) ?_; refine wD_quiet rfl rfl rfl (by exact rfl) (by exact rfl) (by exact rfl) (a_num (by exact rfl) (by exact rfl) (by with_reducible assumption)) ?_; refine wD_nil ?_; refine y1 ?_
        refine kS_n ?_; refine yY ?_; refine wE_region ?_; refine yM ?_; refine yM ?_; refine yM ?_; refine wO_val (a_iaddrS (by exact rfl) (by exact rfl) (by omega)) ?_; refine wO_val (a_loadN (by exact rfl) (by assumption) (by assumption) (by assumption)) ?_
        refine wO_val (a_bslice (fill_rd (by assumption) rfl (by exact rfl)) rfl) ?_
        refine wO_app1 (lo := H3.next) (sz := 12) (v := v) (c1 := rdL r) (ow.ext ((Ext.refl H5).push _)) (by rw [List.length_append]; omega) (by omega) (by omega) (by show H3.next ≤ H5.next + 1; omega) (by omega) (by exact rfl) (by exact rfl) (src_slice (n := 1) (cs := rdL r) (by (simp (disch := first | omega | (simp only [z1, z2]; omega)) only [z3, z4, z5, z6, z7, z1, z2, g3, q3, e1, j1]; exact rfl)) (rdL_all hR) (rdL_length hR)) (rdL_length hR) (rdL_ones r) ?_
        intro v' h6 o6 x6
        have ey6 : Lx H3.next H5 h6 := ((Lx.refl H3.next H5).push (by omega) _).trans x6
        refine yM ?_; refine wO_nil ?_; refine y1 ?_; refine kB_n ?_; refine kS_n ?_; refine wE_region ?_; refine yM ?_; refine yinc ?_; refine yM ?_; refine y3 ?_
        exact ⟨pids.length - (j + 1), by omega, j + 1, v', by omega, rfl, rfl, rfl, ((x5.lx (Nat.le_refl _)).trans ey6).ext, by rw [hps, ← List.append_assoc, List.length_append, ← rsL_snoc]; exact o6⟩
      · rw [if_neg hid, List.append_nil] at hps
        have d1 : numOp .eql (.int .i64 r.id) (.int .i64 x) = some (.bool false) := m_eqlF hid
        refine wE_seq ?_; refine y4 ?_; refine yM ?_; refine yM ?_; refine yD ?_; refine yt ?_; refine y3 ?_
        refine yY ?_; refine wE_skip ?_; refine kS_n ?_; refine wE_seq ?_; refine wE_block ?_; refine wE_seq ?_; refine wE_draw ?_; refine qM ?_; refine qM ?_
        refine wD_quiet rfl rfl rfl (by exact rfl) (by exact rfl) (by exact rfl) (a_iaddrS (by exact rfl) (by exact rfl) (by omega)) ?_; refine qF ?_; refine wD_quiet rfl rfl rfl (by exact rfl) (by exact rfl) (by exact rfl) (a_load (by exact rfl) (by assumption) (by assumption)) ?_
        refine qM ?_; refine qM ?_; refine wD_quiet rfl rfl rfl (by exact rfl) (by exact rfl) (by exact rfl) (a_iaddrS (by exact rfl) (by exact rfl) (by omega)) ?_
        refine wD_quiet rfl rfl rfl (by exact rfl) (by exact rfl) (by exact rfl) (a_load (by exact rfl) (by assumption) (by assumption)) ?_; refine wD_quiet rfl rfl rfl (by exact rfl) (by exact rfl) (by exact rfl) (a_num (by exact rfl) (by exact rfl) (by with_reducible assumption)) ?_; refine wD_nil ?_; refine y1 ?_
        refine kS_n ?_; refine yX ?_; refine wE_skip ?_; refine kB_n ?_; refine kS_n ?_; refine wE_region ?_; refine yM ?_; refine yinc ?_; refine yM ?_; refine y3 ?_
        exact ⟨pids.length - (j + 1), by omega, j + 1, v, by omega, rfl, rfl, rfl, x5, by rw [hps]; exact ow⟩
    · obtain rfl : j = pids.length := by omega
      rw [List.take_length] at ow
      refine wE_seq ?_; refine y4 ?_; refine yM ?_; refine yM ?_; refine yD ?_; refine yf ?_; refine y3 ?_
      refine yX ?_; refine wE_exit ?_; refine kS_e ?_; refine kS_e ?_; refine kB_e ?_; refine kB_n ?_; refine kS_n ?_; refine wE_region ?_; refine yM ?_; refine yinc ?_; refine yM ?_; refine y3 ?_
      exact ⟨l.length - (i + 1), by omega, i + 1, v, by omega, rfl, rfl, rfl, x5, by rw [hst]; exact ow⟩
  · obtain rfl : i = l.length := by omega
    rw [List.take_length, ← m1] at ow
    have hml : m.length ≤ 2 := by omega
    have n4 := x4.next
    have ey4' := ey3'.trans x4
    have W4 := ey4'.wf hr.wf
    have hL4 := ey4'.log.trans hr.log
    have g4 := (x4.old _ (by omega)).trans g3
    have q4 := (x4.old _ (by omega)).trans q3
    have hg4 : Tab H4 := hg.ext ey4' h2
    have s4 := InS.ext' s3 x4
    have sm : RdS H4 v m := ⟨ow.slice (by omega), m5⟩
    obtain ⟨av, cv, rfl⟩ := sm.sl.form
    have K3 : ∃ ids6, Al T 36 [sv bl, .slice av m.length cv, .int .i64 day] { H4 with log := [] } (fun v h' => ∃ u, v = .tuple #[ceV pc, u, .bool true, .int .i64 0] ∧ InS h' u ids6) := by
      have K := doubt36 F.d6 (h := { H4 with log := [] }) (.of W4) hg4 (by show 2 < H4.next; omega) hb (sm.log []) (by omega) day
      revert K m6 m7 m8
      generalize douR bl m day = p6
      obtain ⟨c6, ids6, is6, e6⟩ := p6
      intro m6 m7 m8 K
      dsimp only at m6 m7 m8
      subst m6 m7 m8
      exact ⟨ids6, K⟩
    obtain ⟨ids6, K3⟩ := K3
    clear g3 q3 s3 ow hg3
    refine wE_seq ?_; refine y4 ?_; refine yM ?_; refine yM ?_; refine yD ?_; refine yf ?_; refine y3 ?_
    refine yX ?_; refine wE_exit ?_; refine kS_e ?_; refine kS_e ?_; refine kB_e ?_; refine kS_n ?_; refine y4 ?_; refine wO_val (a_loadN (by exact rfl) (by assumption) (by assumption) (by assumption)) ?_; refine yM ?_; refine yM ?_
    refine yC ?_
    refine FW.al K3 (fun v h' m q => by obtain ⟨u, e, s⟩ := q; exact ⟨u, e, s.log m⟩) ?_
    rintro _ H6 x6 ⟨u6, rfl, s6⟩
    clear K3
    have n6 := x6.next
    have x7 := ext_pw (h := H6) (base := h.next) (by omega) (.cells [I.O, I.O, I.O] true 1) (.cells (lputs [I.O, I.O, I.O] 0 (cellsOf (ceV pc))) true 1)
    have q16 : ((H6.push (.cells [I.O, I.O, I.O] true 1)).wr h.next H6.next (.cells (lputs [I.O, I.O, I.O] 0 (cellsOf (ceV pc))) true 1)).get H6.next = some (.cells (ceL pc) true 1) := get_pw _ _
    have n7 : ((H6.push (.cells [I.O, I.O, I.O] true 1)).wr h.next H6.next (.cells (lputs [I.O, I.O, I.O] 0 (cellsOf (ceV pc))) true 1)).next = H6.next + 1 := rfl
    have hL6 := x6.log.trans hL4
    refine yM ?_; refine yE ?_; refine yE ?_; refine yE ?_; refine yE ?_; refine wO_val (a_new) ?_
    refine yS ?_; refine yM ?_
    refine yM ?_; refine yM ?_; refine y3 ?_
    generalize ((H6.push (.cells [I.O, I.O, I.O] true 1)).wr h.next H6.next (.cells (lputs [I.O, I.O, I.O] 0 (cellsOf (ceV pc))) true 1)) = H7 at *
    have x67 := x6.trans x7
    have ey7' := ey4'.trans x67
    have W7 := ey7'.wf hr.wf
    have hL7 := ey7'.log.trans hr.log
    have q7 := (x67.old _ (by omega)).trans q4
    have sm7 := sm.ext x67
    have C0 : Pu T 21 [] { H7 with log := [] } (.bool true) := puSd F.f21 (show Tab H7 from hg.ext ey7' h2)
    obtain ⟨r0, hr0⟩ : ∃ r, m[0]? = some r := ⟨m[0], List.getElem?_eq_getElem m3⟩
    have hR0 := m5 r0 (List.mem_of_getElem? hr0)
    obtain ⟨b, o, vs, own, t, rfl, e1, e2, hbb, _⟩ := sm7.elem hr0
    have rc := e2.cells
    have rk8 := us_llen hR0.cells.len
    have C1 := has38 F.d6.hv.h (h := { H7 with log := [] }) (.of W7) hR0.cells pc
    rw [m4 r0 (List.mem_of_getElem? hr0)] at C1
    have Lc := c_leaves pc
    have ckp : ltake 3 (ldrop 0 (ceL pc)) = ceL pc := rfl
    have ckpl : Nat.beq (llen (ceL pc)) 3 = true := rfl
    have d3 : numOp .eql (.int .i64 (m.length : Nat)) (.int .i64 (pids.length : Nat)) = some (.bool true) := m_eqlT (by omega)
    clear g4 q4 s4 sm
    refine wE_seq ?_; refine wE_draw ?_
    refine qC ?_
    refine FW.puD C0 (by exact ra_nil) ?_
    clear C0
    refine qM ?_; refine qM ?_; refine wD_quiet rfl rfl rfl (by exact rfl) (by exact rfl) (by exact rfl) (a_num (by exact rfl) (by exact rfl) (by exact m_eqlT (by omega))) ?_
    refine wD_quiet rfl rfl rfl (by exact rfl) (by exact rfl) (by exact rfl) (a_pickT (by exact rfl) (by exact rfl)) ?_; refine qM ?_; refine qM ?_
    refine wD_quiet rfl rfl rfl (by exact rfl) (by exact rfl) (by exact rfl) (a_pickT (by exact rfl) (by exact rfl)) ?_; refine qM ?_; refine qM ?_
    refine wD_quiet rfl rfl rfl (by exact rfl) (by exact rfl) (by exact rfl) (a_len1 (by exact rfl)) ?_; refine qM ?_; refine wD_quiet rfl rfl rfl (by exact rfl) (by exact rfl) (by exact rfl) (a_len1 (by exact rfl)) ?_
    refine wD_quiet rfl rfl rfl (by exact rfl) (by exact rfl) (by exact rfl) (a_num (by exact rfl) (by exact rfl) (by with_reducible assumption)) ?_; refine wD_quiet rfl rfl rfl (by exact rfl) (by exact rfl) (by exact rfl) (a_pickT (by exact rfl) (by exact rfl)) ?_; refine qM ?_
    refine qM ?_; refine wD_quiet rfl rfl rfl (by exact rfl) (by exact rfl) (by exact rfl) (a_iaddrS (by exact rfl) (by exact rfl) (by omega)) ?_; refine qF ?_
    refine wD_quiet rfl rfl rfl (by exact rfl) (by exact rfl) (by exact rfl) (a_loadN (by exact rfl) (by assumption) (by assumption) (by assumption)) ?_; refine qN ?_
    refine qC ?_
    refine FW.puD C1 (by apply ra_dropC rfl; apply ra_dropC rfl; apply ra_dropC rfl; apply ra_dropC rfl; apply ra_dropC rfl; apply ra_dropC rfl; apply ra_dropC rfl; apply ra_dropC rfl; apply ra_dropC rfl; apply ra_dropC rfl; apply ra_dropC rfl; apply ra_dropC rfl; apply ra_dropC rfl; apply ra_dropC rfl; apply ra_dropC rfl; apply ra_dropC rfl; apply ra_dropC rfl; apply ra_dropC rfl; apply ra_dropC rfl; apply ra_dropC rfl; exact ra_nil) ?_
    clear C1
    refine wD_quiet rfl rfl rfl (by exact rfl) (by exact rfl) (by exact rfl) (a_pickT (by exact rfl) (by exact rfl)) ?_; refine qM ?_; refine qN ?_
    refine qN ?_; refine wD_quiet rfl rfl rfl (by exact rfl) (by exact rfl) (by exact rfl) (a_agg (by exact rfl) (by exact rfl) (by assumption)) ?_; refine wD_quiet rfl rfl rfl (by exact rfl) (by exact rfl) (by exact rfl) (a_pickT (by exact rfl) (by exact rfl)) ?_
    refine qM ?_; refine wD_nil ?_; refine y1 ?_; refine kS_n ?_; refine wE_ret ?_
    exact endP_ret hL7 rfl rfl
end Go.A.Pk
end
section
namespace Go.A
open Go.ChangeShapes Go.WideShapes Go.ChangeAt Go.RowKit
section
variable {H : Type} {enc : TypeId × Value → H} {P : Program}
theorem trodAll_stays (hl : laidOutB P = true) {W W' : World} (hb : Below W.heap.size W W') : ∀ {ts : List TypeId} {vs : List Value} {ds : List (DataW H)} {ps : List MemPlace}, (∀ t ∈ ts, P.readableRec t = true ∧ t < P.types.size) → DataW.TrodAll enc P W 0 (fun _ => true) true ts vs ds ps →
    (∀ x ∈ ps, x.block < W.heap.size) → DataW.TrodAll enc P W' 0 (fun b => decide (b < W.heap.size)) true ts vs ds ps
  | [], vs, ds, ps, _, h, _ => by
    obtain ⟨rfl, rfl, rfl⟩ := trodAll_nil h
    exact trodAll_mk0
  | t :: ts, vs, ds, ps, hr, h, hlt => by
    obtain ⟨v, vs', d, ds', p, q, rfl, rfl, rfl, hd, hrest⟩ := trodAll_cons h
    have h1 := hr t (List.mem_cons_self ..)
    exact ⟨p, q, Below.trod hl h1.1 h1.2 hd hb fun x hx => hlt x (List.mem_append_left _ hx), trodAll_stays hl hb (fun t ht => hr t (List.mem_cons_of_mem _ ht)) hrest fun x hx => hlt x (List.mem_append_right _ hx), rfl⟩
theorem law_post {f : Func} {s : ChangeSpec} {W W' : World} {args : Array Value} {ds gs : List (DataW H)} {before : List MemPlace} {tb : TypeId} (hW : DataW.Whole enc P f.params.toList s.vars false W args.toList ds gs before) (hv : s.vars = [])
    (hfn : (s.fn H ds).results = [.lit (.bool true)] ∧ (s.fn H ds).args = ds ∧ (s.fn H ds).vars = []) (hl : laidOutB P = true) (hr : ∀ t ∈ f.params.toList, P.readableRec t = true ∧ t < P.types.size) (hres : f.resultTypes = #[tb]) (htb : P.underlying tb = some .bool) (hb : Below W.heap.size W W') :
    s.post enc P f false true false false W args (.bool true) W' := by
  have hW' := hW
  obtain ⟨p, q, hA, hV, hpq, hz, hn⟩ := hW
  rw [hv] at hV
  obtain ⟨rfl, rfl⟩ := trodVars_none hV
  have hbp : before = p := by simpa using hpq
  subst hbp
  obtain ⟨h1, h2, h3⟩ := hfn
  have hlt : ∀ x ∈ before, x.block < W.heap.size := fun x hx => by simpa using hW'.lt x hx
  refine ⟨ds, [], before, [], before, [], hW', ?_, ?_, ?_, hb.frame _, fun h => by cases h⟩
  · rw [List.append_nil, h1, hres]
    exact trodAll_cons_mk (shut_bool htb _) trodAll_mk0
  · rw [List.append_nil, h2]
    exact trodAll_stays hl hb hr hA hlt
  · rw [List.append_nil, h3, hv]
    rfl
end
end Go.A
end
section
set_option maxRecDepth 100000
namespace Go.A.Pk
open Go Go.Proofs Go.Joins Go.ChangeShapes Go.WideShapes Go.RowKit Go.Deep
inductive CellsAt (W : World) (sz : Nat) : Value → Nat → List Value → Prop
  | nil : CellsAt W sz (.slice none 0 0) 0 []
  | empty {b o cap c el fz} : W.heap[b]? = some (.cells c el fz) → cap < UNK → CellsAt W sz (.slice (some ⟨b, o, none⟩) 0 cap) 0 []
  | full {b o cap n c el fz} {cs : List Value} : W.heap[b]? = some (.cells c el fz) → n ≠ 0 → cs.length = n * sz → 0 < sz → n ≤ cap → cap < UNK → (∀ j, j < n * sz → c[o + j]? = cs[j]?) → (∀ x ∈ cs, noRef x = true) → CellsAt W sz (.slice (some ⟨b, o, none⟩) n cap) n cs
structure Ob where
  vs : List Value
  sz : Nat
  b : Nat
  d : Nat
  e : Nat
def obsL : Nat → List Ob → List (Nat × AObj)
  | _, [] => []
  | n, o :: l => (n, .cells o.vs false o.sz) :: obsL (n + 1) l
abbrev Gl := List (Nat × List Value)
def glL (G : Gl) (l : List (Nat × AObj)) : List (Nat × AObj) := match G with
  | [] => l
  | (g, vs) :: G => (g, .cells vs false 1) :: glL G l
def glM (G : Gl) (f : Mu) : Mu := match G with
  | [] => f
  | (g, vs) :: G => fun x => if x = g then some ⟨g, 0, vs.length, 1⟩ else glM G f x
def obH (G : Gl) (l : List Ob) : Heap := ⟨glL G (obsL 1000 l), 1000 + l.length, []⟩
def obM (G : Gl) (l : List Ob) : Mu := glM G fun x => if 1000 ≤ x then (l[x - 1000]?).map fun o => ⟨o.b, o.d, o.e, o.sz⟩ else none
structure ObOk (W : World) (μ : Mu) (o : Ob) : Prop where
  ok : ∃ c el fz, W.heap[o.b]? = some (.cells c el fz) ∧ o.d + o.vs.length ≤ o.e ∧ o.e ≤ c.size ∧ ∀ i, i < o.vs.length → ∃ v', c[o.d + i]? = some v' ∧ VR μ (gv o.vs i) v'
theorem obsL_get : ∀ (l : List Ob) (n x : Nat), getO (obsL n l) x = if n ≤ x then (l[x - n]?).map fun o => .cells o.vs false o.sz else none
  | [], n, x => by simp [obsL, getO]
  | o :: l, n, x => by
    simp only [obsL, getO, cond_eq_ite, beq_eq, decide_eq_true_eq]
    by_cases hx : n = x
    · subst hx
      rw [if_pos rfl, if_pos (Nat.le_refl _), Nat.sub_self]
      rfl
    · rw [if_neg hx, obsL_get l (n + 1) x]
      by_cases h1 : n ≤ x
      · rw [if_pos h1, if_pos (by omega), show x - n = (x - (n + 1)) + 1 by omega, List.getElem?_cons_succ]
      · rw [if_neg h1, if_neg (by omega)]
structure GlOk (W : World) (G : Gl) : Prop where
  ok : ∀ q ∈ G, q.1 < Tryz.prog.globals.size ∧ (∃ t fz, W.heap[q.1]? = some (.cells q.2.toArray t fz)) ∧ ∀ v ∈ q.2, noRef v = true
  nd : (G.map (·.1)).Nodup
theorem glL_get (G : Gl) (l : List (Nat × AObj)) (x : Nat) : (∃ vs, (x, vs) ∈ G ∧ getO (glL G l) x = some (.cells vs false 1)) ∨ ((∀ vs, (x, vs) ∉ G) ∧ getO (glL G l) x = getO l x) := by
  induction G with
  | nil => exact .inr ⟨fun vs h => (nomatch h), rfl⟩
  | cons q G ih =>
    obtain ⟨g, vs⟩ := q
    by_cases hx : x = g
    · subst hx
      refine .inl ⟨vs, List.mem_cons_self, ?_⟩
      simp [glL, getO]
    · have e : getO (glL ((g, vs) :: G) l) x = getO (glL G l) x := by
        simp only [glL, getO, cond_eq_ite, beq_eq, decide_eq_true_eq, if_neg (Ne.symm hx)]
      rw [e]
      rcases ih with ⟨us, h1, h2⟩ | ⟨h1, h2⟩
      · exact .inl ⟨us, List.mem_cons_of_mem _ h1, h2⟩
      · exact .inr ⟨fun us h => by
          rcases List.mem_cons.1 h with h | h
          · cases h; exact hx rfl
          · exact h1 us h, h2⟩
theorem glM_get {G : Gl} (hn : (G.map (·.1)).Nodup) (f : Mu) (x : Nat) : (∀ vs, (x, vs) ∈ G → glM G f x = some ⟨x, 0, vs.length, 1⟩) ∧ ((∀ vs, (x, vs) ∉ G) → glM G f x = f x) := by
  induction G with
  | nil => exact ⟨fun vs h => by (cases h), fun _ => rfl⟩
  | cons q G ih =>
    obtain ⟨g, us⟩ := q
    rw [List.map_cons, List.nodup_cons] at hn
    obtain ⟨i1, i2⟩ := ih hn.2
    refine ⟨fun vs h => ?_, fun h => ?_⟩
    · rcases List.mem_cons.1 h with h | h
      · cases h
        simp [glM]
      · have : x ≠ g := fun e => hn.1 (List.mem_map.2 ⟨(x, vs), h, e⟩)
        simp only [glM, if_neg this]
        exact i1 vs h
    · have : x ≠ g := fun e => h us (by rw [e]; exact List.mem_cons_self)
      simp only [glM, if_neg this]
      exact i2 fun vs hv => h vs (List.mem_cons_of_mem _ hv)
theorem glob1000 {n : Nat} (h : n < Tryz.prog.globals.size) : n < 1000 := by
  have := globs_le; omega
theorem obH_get {W : World} {G : Gl} (hG : GlOk W G) (l : List Ob) (x : Nat) (h : 1000 ≤ x) : (obH G l).get x = (l[x - 1000]?).map fun o => .cells o.vs false o.sz := by
  show getO (glL G (obsL 1000 l)) x = _
  rcases glL_get G (obsL 1000 l) x with ⟨vs, h1, _⟩ | ⟨_, h2⟩
  · have := glob1000 (hG.ok _ h1).1
    simp only at this; omega
  · rw [h2, obsL_get, if_pos h]
theorem obM_get {W : World} {G : Gl} (hG : GlOk W G) (l : List Ob) (x : Nat) (h : 1000 ≤ x) : obM G l x = (l[x - 1000]?).map fun o => ⟨o.b, o.d, o.e, o.sz⟩ := by
  unfold obM
  rw [(glM_get hG.nd _ x).2 fun vs hv => by have := glob1000 (hG.ok _ hv).1; simp only at this; omega, if_pos h]
theorem obH_gl {W : World} {G : Gl} (hG : GlOk W G) (l : List Ob) {g : Nat} {vs : List Value} (h : (g, vs) ∈ G) : (obH G l).get g = some (.cells vs false 1) := by
  show getO (glL G (obsL 1000 l)) g = _
  rcases glL_get G (obsL 1000 l) g with ⟨us, h1, h2⟩ | ⟨h1, _⟩
  · rw [h2]
    have e : us = vs := by
      have q1 := (glM_get hG.nd (fun _ => none) g).1 _ h
      clear h2
      have hn := hG.nd
      clear hG q1
      induction G with
      | nil => cases h
      | cons q G ih =>
        rw [List.map_cons, List.nodup_cons] at hn
        rcases List.mem_cons.1 h with e1 | e1
        · rcases List.mem_cons.1 h1 with e2 | e2
          · rw [← e1] at e2; exact (Prod.mk.inj e2).2
          · exact (hn.1 (List.mem_map.2 ⟨_, e2, by rw [← e1]⟩)).elim
        · rcases List.mem_cons.1 h1 with e2 | e2
          · exact (hn.1 (List.mem_map.2 ⟨_, e1, by rw [← e2]⟩)).elim
          · exact ih e1 e2 hn.2
    rw [e]
  · exact (h1 vs h).elim
theorem obH_some {W : World} {G : Gl} (hG : GlOk W G) {l : List Ob} {x : Nat} {a : AObj} (h : (obH G l).get x = some a) : (∃ vs, (x, vs) ∈ G ∧ a = .cells vs false 1 ∧ obM G l x = some ⟨x, 0, vs.length, 1⟩) ∨ (1000 ≤ x ∧ ∃ o, l[x - 1000]? = some o ∧ a = .cells o.vs false o.sz ∧ obM G l x = some ⟨o.b, o.d, o.e, o.sz⟩) := by
  have h' : getO (glL G (obsL 1000 l)) x = some a := h
  rcases glL_get G (obsL 1000 l) x with ⟨vs, h1, h2⟩ | ⟨h1, h2⟩
  · rw [h2] at h'
    cases h'
    exact .inl ⟨vs, h1, rfl, (glM_get hG.nd _ x).1 vs h1⟩
  · rw [h2, obsL_get] at h'
    split at h'
    · rename_i h8
      cases hl : l[x - 1000]? with
      | none => rw [hl] at h'; cases h'
      | some o =>
        rw [hl] at h'; cases h'
        exact .inr ⟨h8, o, rfl, rfl, by rw [obM_get hG l x h8, hl]; rfl⟩
    · cases h'
theorem obM_some {W : World} {G : Gl} (hG : GlOk W G) {l : List Ob} {x : Nat} {k : Blk} (h : obM G l x = some k) : (∃ vs, (x, vs) ∈ G ∧ k = ⟨x, 0, vs.length, 1⟩) ∨ (1000 ≤ x ∧ ∃ o, l[x - 1000]? = some o ∧ k = ⟨o.b, o.d, o.e, o.sz⟩) := by
  by_cases hg : ∃ vs, (x, vs) ∈ G
  · obtain ⟨vs, hv⟩ := hg
    have := (glM_get hG.nd (fun x => if 1000 ≤ x then (l[x - 1000]?).map fun o => (⟨o.b, o.d, o.e, o.sz⟩ : Blk) else none) x).1 vs hv
    exact .inl ⟨vs, hv, (Option.some.inj (this.symm.trans h)).symm⟩
  · have := (glM_get hG.nd (fun x => if 1000 ≤ x then (l[x - 1000]?).map fun o => (⟨o.b, o.d, o.e, o.sz⟩ : Blk) else none) x).2 fun vs hv => hg ⟨vs, hv⟩
    have h := this.symm.trans h
    split at h
    · rename_i h8
      cases hl : l[x - 1000]? with
      | none => rw [hl] at h; cases h
      | some o => rw [hl] at h; cases h; exact .inr ⟨h8, o, rfl, rfl⟩
    · cases h
theorem R.obs {W : World} {G : Gl} (hG : GlOk W G) {l : List Ob} (H : ∀ o ∈ l, ObOk W (obM G l) o) : R Tryz.prog (obM G l) (obH G l) W := by
  refine ⟨Nat.le_trans globs_le (Nat.le_add_right _ _), fun g o hgs hx => ?_, fun x o hx => ?_, fun x o hx => ?_, fun x k hk => ?_, fun x y o o' k k' hne hx hy _ _ hk hk' _ => ?_⟩
  · rcases obH_some hG hx with ⟨vs, h1, rfl, h3⟩ | ⟨h8, _⟩
    · obtain ⟨_, ⟨t, fz, hw⟩, _⟩ := hG.ok _ h1
      refine ⟨_, h3, rfl, rfl, fun _ _ c' t' fz' hc' => ?_⟩
      rw [hw] at hc'
      cases hc'
      show vs.length = vs.toArray.size
      simp
    · have := glob1000 hgs; omega
  · rcases obH_some hG hx with ⟨vs, h1, rfl, h3⟩ | ⟨h8, ob, hl, rfl, h3⟩
    · obtain ⟨_, ⟨t, fz, hw⟩, hn⟩ := hG.ok _ h1
      intro k hk
      rw [h3] at hk
      cases hk
      refine ⟨rfl, vs.toArray, t, fz, hw, by show 0 + vs.length ≤ vs.length; omega, by simp, fun i hi => ?_, fun h => by cases h⟩
      refine ⟨vs[i], by show vs.toArray[0 + i]? = _; rw [Nat.zero_add, List.getElem?_toArray, List.getElem?_eq_getElem hi], ?_⟩
      have e : gv vs i = vs[i]'hi := by unfold gv; rw [lget_eq, List.getElem?_eq_getElem hi]; rfl
      rw [e]
      exact (VR.noRef (hn _ (List.getElem_mem _))).1
    · intro k hk
      rw [h3] at hk
      cases hk
      obtain ⟨c, el, fz, hW, h1, h2, hv⟩ := (H ob (List.mem_of_getElem? hl)).ok
      exact ⟨rfl, c, el, fz, hW, h1, h2, hv, fun h => by cases h⟩
  · rcases obH_some hG hx with ⟨vs, h1, rfl, h3⟩ | ⟨h8, ob, hl, rfl, h3⟩
    · have := glob1000 (hG.ok _ h1).1
      show x < 1000 + l.length
      simp only at this; omega
    · have := (List.getElem?_eq_some_iff.1 hl).1
      show x < 1000 + l.length
      omega
  · rcases obM_some hG hk with ⟨vs, h1, rfl⟩ | ⟨h8, ob, hl, rfl⟩
    · obtain ⟨hlt, ⟨t, fz, hw⟩, hn⟩ := hG.ok _ h1
      have := glob1000 hlt
      exact ⟨by show x < 1000 + l.length; simp only at this; omega, (Array.getElem?_eq_some_iff.1 hw).1⟩
    · have := (List.getElem?_eq_some_iff.1 hl).1
      obtain ⟨c, el, fz, hW, _⟩ := (H ob (List.mem_of_getElem? hl)).ok
      exact ⟨by show x < 1000 + l.length; omega, (Array.getElem?_eq_some_iff.1 hW).1⟩
  · rcases obH_some hG hx with ⟨vs, h1, rfl, h3⟩ | ⟨h8, ob, hl, rfl, h3⟩ <;> rcases obH_some hG hy with ⟨vs', h1', rfl, h3'⟩ | ⟨h8', ob', hl', rfl, h3'⟩ <;> exact ⟨rfl, rfl⟩
theorem obH_ro {W : World} {G : Gl} (hG : GlOk W G) {l : List Ob} : ∀ b o, (obH G l).get b = some o → o.ro = true ∨ o.live = false := fun b o hx => by
  rcases obH_some hG hx with ⟨vs, h1, rfl, h3⟩ | ⟨h8, ob, hl, rfl, h3⟩ <;> exact .inl rfl
theorem obsL_keys : ∀ (l : List Ob) (n : Nat), ((obsL n l).map (·.1)).Nodup ∧ ∀ b ∈ (obsL n l).map (·.1), n ≤ b ∧ b < n + l.length
  | [], n => ⟨by simp [obsL], fun b hb => by simp [obsL] at hb⟩
  | o :: l, n => by
    obtain ⟨h1, h2⟩ := obsL_keys l (n + 1)
    refine ⟨?_, fun b hb => ?_⟩
    · simp only [obsL, List.map_cons, List.nodup_cons]
      exact ⟨fun q => by have := (h2 n q).1; omega, h1⟩
    · simp only [obsL, List.map_cons, List.mem_cons] at hb
      rcases hb with rfl | hb
      · simp
      · have := h2 b hb
        simp only [List.length_cons]
        omega
theorem glL_keys : ∀ {G : Gl} {l : List (Nat × AObj)}, (glL G l).map (·.1) = G.map (·.1) ++ l.map (·.1)
  | [], l => rfl
  | (g, vs) :: G, l => by
    show g :: (glL G l).map (·.1) = _
    rw [glL_keys]; rfl
theorem obH_rdy {W : World} {G : Gl} (hG : GlOk W G) (l : List Ob) : Rdy (obH G l) := by
  refine ⟨⟨?_, fun b hb => ?_⟩, rfl⟩
  · show ((glL G (obsL 1000 l)).map (·.1)).Nodup
    rw [glL_keys, List.nodup_append]
    refine ⟨hG.nd, (obsL_keys l 1000).1, fun a ha b hb e => ?_⟩
    obtain ⟨q, hq, rfl⟩ := List.mem_map.1 ha
    have h1 := glob1000 (hG.ok _ hq).1
    have h2 := ((obsL_keys l 1000).2 b hb).1
    omega
  · have hb' : b ∈ (glL G (obsL 1000 l)).map (·.1) := hb
    rw [glL_keys] at hb'
    show b < 1000 + l.length
    rcases List.mem_append.1 hb' with q | q
    · obtain ⟨q, hq, rfl⟩ := List.mem_map.1 q
      have h1 := glob1000 (hG.ok _ hq).1
      omega
    · exact ((obsL_keys l 1000).2 b q).2
theorem CellsAt.lay {W : World} {G : Gl} (hG : GlOk W G) {sz n : Nat} {sl : Value} {cs : List Value} (s : CellsAt W sz sl n cs) : ∃ ob : List Ob, (∀ μ, ∀ o ∈ ob, ObOk W μ o) ∧ ∀ (L : List Ob) (i : Nat), (∀ o, ob[0]? = some o → L[i]? = some o) → ∃ a c, VR (obM G L) (.slice a n c) sl ∧ SliceOf (obH G L) sz (.slice a n c) n cs ∧ c < UNK := by
  cases s with
  | nil => exact ⟨[], (fun _ o ho => by cases ho), fun L i _ => ⟨none, 0, .sliceN _ _, .nil, by unfold UNK; omega⟩⟩
  | @empty b o cap c el fz hW hc =>
    refine ⟨[⟨[], sz, b, 0, 0⟩], fun μ o' ho => ?_, fun L i hL => ?_⟩
    · rw [List.mem_singleton.1 ho]
      exact ⟨c, el, fz, hW, Nat.le_refl _, Nat.zero_le _, fun i hi => by cases hi⟩
    · have hi := hL _ rfl
      have hg : (obH G L).get (1000 + i) = some (.cells [] false sz) := by rw [obH_get hG _ _ (by omega), show 1000 + i - 1000 = i by omega, hi]; rfl
      have hm : obM G L (1000 + i) = some ⟨b, 0, 0, sz⟩ := by rw [obM_get hG _ _ (by omega), show 1000 + i - 1000 = i by omega, hi]; rfl
      have hlt := (List.getElem?_eq_some_iff.1 hi).1
      refine ⟨some ⟨1000 + i, o, none⟩, cap, ?_, .mem ⟨by show 1000 + i < 1000 + L.length; omega, ⟨[], false, sz, hg, ?_⟩, by simp⟩ (Nat.zero_le _), hc⟩
      · have := VR.slice (μ := obM G L) (b := 1000 + i) (o := o) (l := 0) (c := cap) (k := ⟨b, 0, 0, sz⟩) hm hc (Nat.zero_le _)
        simpa using this
      · rw [ldrop_eq, List.drop_nil]
        cases 0 * sz <;> rfl
  | @full b o cap _ c el fz _ hW hne hlen hsz hl hc hat hno =>
    have hpos : 0 < n * sz := Nat.mul_pos (Nat.pos_of_ne_zero hne) hsz
    have hsize : o + n * sz ≤ c.size := by
      have h1 := hat (n * sz - 1) (by omega)
      have h2 : cs[n * sz - 1]? = some (cs[n * sz - 1]'(by omega)) := List.getElem?_eq_getElem _
      rw [h2] at h1
      have := (Array.getElem?_eq_some_iff.1 h1).1
      omega
    refine ⟨[⟨cs, sz, b, o, o + n * sz⟩], fun μ o' ho => ?_, fun L i hL => ?_⟩
    · rw [List.mem_singleton.1 ho]
      refine ⟨c, el, fz, hW, by show o + cs.length ≤ o + n * sz; omega, hsize, fun i hi => ?_⟩
      have hi' : i < cs.length := hi
      have h2 : cs[i]? = some (cs[i]'hi') := List.getElem?_eq_getElem _
      refine ⟨_, (hat i (by omega)).trans h2, ?_⟩
      have e : gv cs i = cs[i]'hi' := by unfold gv; rw [lget_eq, h2]; rfl
      show VR μ (gv cs i) _
      rw [e]
      exact (VR.noRef (hno _ (List.getElem_mem _))).1
    · have hi := hL _ rfl
      have hg : (obH G L).get (1000 + i) = some (.cells cs false sz) := by rw [obH_get hG _ _ (by omega), show 1000 + i - 1000 = i by omega, hi]; rfl
      have hm : obM G L (1000 + i) = some ⟨b, o, o + n * sz, sz⟩ := by rw [obM_get hG _ _ (by omega), show 1000 + i - 1000 = i by omega, hi]; rfl
      have hlt := (List.getElem?_eq_some_iff.1 hi).1
      refine ⟨some ⟨1000 + i, 0, none⟩, cap, ?_, .mem ⟨by show 1000 + i < 1000 + L.length; omega, ⟨cs, false, sz, hg, ?_⟩, hlen⟩ hl, hc⟩
      · have := VR.slice (μ := obM G L) (b := 1000 + i) (o := 0) (l := n) (c := cap) (k := ⟨b, o, o + n * sz, sz⟩) hm hc hl
        simpa using this
      · rw [ltake_eq, ldrop_eq, List.drop_zero, List.take_of_length_le (by omega)]
theorem St.below {μ μ' : Mu} {h h' : Heap} {W W' : World} (s : St μ h W μ' h' W') (hro : ∀ b o, h.get b = some o → o.ro = true ∨ o.live = false) : Below W.heap.size W W' :=
  ⟨s.same.os, s.same.tape, s.same.out, s.le, fun r hr => s.keep r hr fun ⟨b, o, k, g1, g2, g3, _⟩ => by
    rcases hro b o g1 with q | q
    · rw [q] at g3; cases g3
    · rw [q] at g2; cases g2⟩
theorem laidG1 {W : World} {G : Gl} (hG : GlOk W G) {sz1 n1 : Nat} {s1 : Value} {c1 : List Value} (h1 : CellsAt W sz1 s1 n1 c1) : ∃ (h : Heap) (μ : Mu), R Tryz.prog μ h W ∧ (∀ b o, h.get b = some o → o.ro = true ∨ o.live = false) ∧ Rdy h ∧ 1000 ≤ h.next ∧ (∀ g vs, (g, vs) ∈ G → h.get g = some (.cells vs false 1)) ∧
    (∃ a c, VR μ (.slice a n1 c) s1 ∧ SliceOf h sz1 (.slice a n1 c) n1 c1 ∧ c < UNK) := by
  obtain ⟨o1, k1, q1⟩ := h1.lay hG
  exact ⟨obH G o1, obM G o1, R.obs hG fun o ho => k1 _ o ho, obH_ro hG, obH_rdy hG _, Nat.le_add_right _ _, fun g vs h => obH_gl hG _ h, q1 _ 0 fun o ho => ho⟩
end Go.A.Pk
end
section
set_option maxRecDepth 100000
namespace Go.A.Pk
open Go Go.Proofs Go.Joins Go.ChangeShapes Go.WideShapes Go.RowKit Go.Deep
section
variable {H : Type} {enc : TypeId × Value → H} {W : World} {base : Nat} {spare : Nat → Bool} {held : Bool}
theorem cells3 : Tryz.prog.cellsOf 3 = 1 := by kernel_rfl
theorem cells5 : Tryz.prog.cellsOf 5 = 1 := by kernel_rfl
theorem cells22 : Tryz.prog.cellsOf 22 = 1 := by kernel_rfl
theorem cells24 : Tryz.prog.cellsOf 24 = 8 := by kernel_rfl
theorem cells63 : Tryz.prog.cellsOf 63 = 12 := by kernel_rfl
theorem solid_cells {fuel : Nat} {cs : List Value} {x : DataW H × List MemPlace} (h : DataW.trod enc Tryz.prog W base spare held fuel 24 cs = some x) : ∃ pl, IsS pl ∧ cs = us pl := by
  obtain ⟨xs, m, _, _, hl, hxl, hg⟩ := DataW.trod_array Tryz.underlying24 h
  rw [cells24] at hl
  have key : ∀ i, i < 8 → ∃ n : Nat, n < U64 ∧ cs[i]? = some (.int .u64 (n : Int)) := fun i hi => by
    have hg := hg i hi
    rw [cells22] at hg
    have hx : xs[i]? = some xs[i] := List.getElem?_eq_getElem (by omega)
    rw [hx] at hg
    obtain ⟨z, hz, _, hw⟩ := DataW.trod_int Tryz.underlying22 hg
    have hb : 0 ≤ z ∧ z ≤ 18446744073709551615 := by
      simpa [Lit.wf, IntKind.min, IntKind.max, IntKind.signed, IntKind.bits] using hw
    obtain ⟨n, rfl⟩ := Int.eq_ofNat_of_zero_le hb.1
    refine ⟨n, by unfold U64; omega, ?_⟩
    have hz2 : (cs.drop (i * 1)).take 1 = [Value.int .u64 (n : Int)] := hz
    have hz' : ((cs.drop (i * 1)).take 1)[0]? = some (.int .u64 (n : Int)) := by rw [hz2]; rfl
    rw [List.getElem?_take_of_lt (by omega), List.getElem?_drop] at hz'
    simpa using hz'
  let f : Value → Nat := fun v => match v with | .int _ n => n.toNat | _ => 0
  refine ⟨cs.map f, ⟨by simpa using hl, fun x hx => ?_⟩, ?_⟩
  · obtain ⟨y, hy, rfl⟩ := List.mem_map.1 hx
    obtain ⟨i, hi, rfl⟩ := List.mem_iff_getElem.1 hy
    obtain ⟨n, hn, hk⟩ := key i (by omega)
    rw [List.getElem?_eq_getElem hi, Option.some.injEq] at hk
    rw [hk]; exact hn
  · apply List.ext_getElem?
    intro i
    by_cases hi : i < 8
    · obtain ⟨n, hn, hk⟩ := key i hi
      rw [hk]
      simp only [us, List.getElem?_map, hk, z7]
      rfl
    · rw [List.getElem?_eq_none (by omega), List.getElem?_eq_none (by rw [us_length, List.length_map]; omega)]
theorem reading_cells {fuel : Nat} {cs : List Value} {x : DataW H × List MemPlace} (h : DataW.trod enc Tryz.prog W base spare held fuel 63 cs = some x) : ∃ r : Rd, IsR r ∧ cs = rdL r := by
  obtain ⟨xs, n, _, hx, hcl, hlen, hg⟩ := DataW.trod_struct Tryz.underlying63 h
  rw [cells63] at hcl
  match cs, hcl with
  | [c0, c1, c2, c3, c4, c5, c6, c7, c8, c9, c10, c11], _ =>
    match xs, hlen with
    | [y0, y1, y2, y3, y4], _ =>
      have g0 : DataW.trod enc Tryz.prog W base spare held n 3 [c0] = some y0 := by have := hg 0 _ rfl; simpa [cells3] using this
      have g1 : DataW.trod enc Tryz.prog W base spare held n 3 [c1] = some y1 := by have := hg 1 _ rfl; simpa [cells3] using this
      have g2 : DataW.trod enc Tryz.prog W base spare held n 5 [c2] = some y2 := by have := hg 2 _ rfl; simpa [cells5] using this
      have g3 : DataW.trod enc Tryz.prog W base spare held n 24 [c3, c4, c5, c6, c7, c8, c9, c10] = some y3 := by have := hg 3 _ rfl; simpa [cells24] using this
      have g4 : DataW.trod enc Tryz.prog W base spare held n 3 [c11] = some y4 := by have := hg 4 _ rfl; simpa [cells3] using this
      obtain ⟨a0, h0, _⟩ := DataW.trod_int Tryz.underlying3 g0
      obtain ⟨a1, h1, _⟩ := DataW.trod_int Tryz.underlying3 g1
      obtain ⟨a2, h2, _, w2⟩ := DataW.trod_int Tryz.underlying5 g2
      obtain ⟨pl, hp, h3⟩ := solid_cells g3
      obtain ⟨a4, h4, _⟩ := DataW.trod_int Tryz.underlying3 g4
      cases h0; cases h1; cases h2; cases h4
      have hb : 0 ≤ a2 ∧ a2 ≤ 255 := by
        simpa [Lit.wf, IntKind.min, IntKind.max, IntKind.signed, IntKind.bits] using w2
      obtain ⟨k, rfl⟩ := Int.eq_ofNat_of_zero_le hb.1
      refine ⟨⟨a0, a1, k, pl, a4⟩, ⟨hp, by show k < 256; omega⟩, ?_⟩
      show _ = _ :: _ :: _ :: (us pl ++ [_])
      rw [← h3]; rfl
theorem add_eq (b o n : Nat) : (Addr.mk b o none).add n = ⟨b, o + n, none⟩ := by
  unfold Addr.add
  by_cases h : n = 0
  · rw [if_pos h, h, Nat.add_zero]
  · rw [if_neg h]
theorem rsL_get {l : List Rd} (hl : ∀ r ∈ l, IsR r) {i : Nat} {r : Rd} {j : Nat} (h : l[i]? = some r) (hj : j < 12) : (rsL l)[i * 12 + j]? = (rdL r)[j]? := by
  have hR := hl r (List.mem_of_getElem? h)
  have hlt := (List.getElem?_eq_some_iff.1 h).1
  have e : l = l.take i ++ r :: l.drop (i + 1) := by
    obtain ⟨q, rfl⟩ := List.getElem?_eq_some_iff.1 h
    rw [← List.drop_eq_getElem_cons q, List.take_append_drop]
  have hlen : (rsL (l.take i)).length = i * 12 := by rw [rsL_length fun r hr => hl r (List.mem_of_mem_take hr), List.length_take, Nat.min_eq_left (by omega)]
  conv => lhs; rw [e, rsL_app, rsL_cons]
  rw [List.getElem?_append_right (by omega), hlen, Nat.add_sub_cancel_left, List.getElem?_append_left (by rw [rdL_length hR]; exact hj)]
theorem noRef_rdL (r : Rd) : ∀ v ∈ rdL r, noRef v = true := by
  intro v hv
  simp only [rdL, us, List.mem_cons, List.mem_append, List.mem_map, List.not_mem_nil, or_false] at hv
  rcases hv with rfl | rfl | rfl | ⟨n, _, rfl⟩ | rfl <;> rfl
theorem noRef_rsL (l : List Rd) : ∀ v ∈ rsL l, noRef v = true := by
  intro v hv
  induction l with
  | nil => cases hv
  | cons r l ih =>
    rw [rsL_cons] at hv
    rcases List.mem_append.1 hv with q | q
    · exact noRef_rdL r v q
    · exact ih q
instance : Inhabited Rd := ⟨⟨0, 0, 0, [], 0⟩⟩
def RdsAt (W : World) (v : Value) (l : List Rd) : Prop := CellsAt W 12 v l.length (rsL l) ∧ ∀ r ∈ l, IsR r
theorem open_readings {v : Value} {d : DataW H} {p : List MemPlace} (hv : Value.okWide Tryz.prog W .any base 54 v) (h : DataW.Trod enc Tryz.prog W 0 (fun _ => true) held 54 v d p) (hz : ∀ n ∈ d.weights Tryz.prog 54, n ≤ reachBytes) : ∃ l, RdsAt W v l := by
  have hcell : Cell.okWide Tryz.prog W .any base 54 v := by
    simpa only [Value.okWide, Tryz.underlying54] using hv
  obtain ⟨a0, len0, cap0, rfl⟩ := okWide_slice Tryz.underlying54 hv
  obtain ⟨fuel, hf⟩ := h
  have hf : DataW.trod enc Tryz.prog W 0 (fun _ => true) held fuel 54 [.slice a0 len0 cap0] = some (d, p) := by simpa [Value.cells] using hf
  rcases open_slice Tryz.underlying54 hf with ⟨h2, _⟩ | ⟨a, len, cap, m, n', D, Pl, h2, _, hl, hcap, hm, hy, hx⟩
  · cases h2
    exact ⟨[], .nil, fun x hx => by cases hx⟩
  · cases h2
    simp only [Cell.okWide, Cell.ok, Tryz.underlying54, World.has] at hcell
    obtain ⟨_, _, _, hspot, row, cells, hsh, _⟩ := hcell
    obtain ⟨b, o, sp⟩ := a
    simp only at hspot hsh
    subst hspot
    rw [if_pos rfl] at hm
    subst hm
    have e16 : Tryz.prog.bytesOf 63 = 96 := by kernel_rfl
    have hcapU : m * 96 ≤ reachBytes := by
      refine hz (m * 96) ?_
      cases hy
      simp only [DataW.weights, Tryz.underlying54, e16, List.length_map, List.length_range, show len0 + (m - len0) = m by omega]
      simp
    unfold reachBytes at hcapU
    obtain ⟨c, el, fz, hheap⟩ : ∃ c el fz, W.heap[b]? = some (.cells c el fz) := by
      unfold World.shape? at hsh
      split at hsh
      · rename_i c el fz he; exact ⟨c, el, fz, he⟩
      · cases hsh
    obtain ⟨f, hf⟩ := choose_lt (α := Rd) (n := len0) (p := fun i k => IsR k ∧ ∀ j, j < 12 → c[o + (i * 12 + j)]? = (rdL k)[j]?) (fun i hi => by
      obtain ⟨cs', hc, ht⟩ := hx i (by omega)
      obtain ⟨k, hk2, hk⟩ := reading_cells ht
      subst hk
      refine ⟨k, hk2, fun j hj => ?_⟩
      rw [cells63] at hc
      obtain ⟨_, _, hat⟩ := World.cells?_some hc
      have := hat j hj
      rw [add_eq, add_eq] at this
      rw [← this, Nat.add_assoc]
      unfold World.cell?
      simp only [hheap]
      rfl)
    by_cases h0 : len0 = 0
    · subst h0
      exact ⟨[], .empty hheap (by unfold UNK; omega), fun x hx => by cases hx⟩
    · have hlen : ((List.range len0).map f).length = len0 := by simp
      have hok : ∀ r ∈ (List.range len0).map f, IsR r := fun x hx => by
        obtain ⟨i, hi, rfl⟩ := List.mem_map.1 hx
        exact (hf i (List.mem_range.1 hi)).1
      refine ⟨(List.range len0).map f, ?_, hok⟩
      rw [hlen]
      refine .full hheap h0 (by rw [rsL_length hok, hlen]) (by omega) hl (by unfold UNK; omega) (fun j hj => ?_) (noRef_rsL _)
      have h5 : j / 12 < len0 := by omega
      have e1 : j = j / 12 * 12 + j % 12 := by omega
      have g1 := (hf (j / 12) h5).2 (j % 12) (by omega)
      have g2 := rsL_get hok (i := j / 12) (r := f (j / 12)) (j := j % 12) (by simp [h5]) (by omega)
      rw [← e1] at g1 g2
      rw [g1, g2]
end
def tabV : List Value := debL.map fun n => .int .u8 (n : Nat)
abbrev TabAt (W : World) : Prop := ∃ t fz, W.heap[2]? = some (.cells tabV.toArray t fz)
theorem TabAt.gl {W : World} (h : TabAt W) : GlOk W [(2, tabV)] := by
  refine ⟨fun q hq => ?_, by simp⟩
  rw [List.mem_singleton.1 hq]
  refine ⟨of_decide_eq_true (by kernel_rfl), h, fun v hv => ?_⟩
  simp only [tabV, List.mem_map] at hv
  obtain ⟨n, _, rfl⟩ := hv
  rfl
theorem tab_named : Tryz.prog.globalNamed "math/bits.deBruijn64tab" = some 2 := by kernel_rfl
theorem tab_type : (Tryz.prog.globals[2]?).map (·.type) = some 369 := by kernel_rfl
theorem tab_elem : ∃ e, Tryz.prog.underlying 369 = some (.array 64 e) ∧ Tryz.prog.underlying e = some (.int .u8) ∧ Tryz.prog.cellsOf e = 1 ∧ Tryz.prog.cellsOf 369 = 64 := ⟨_, Tryz.underlying369, by kernel_rfl, by kernel_rfl, by kernel_rfl⟩
theorem tab_at {W : World} {d : DataW Unit} {rest : List (String × DataW Unit)} (hd : d = Lib.tabData .u8 (debL.map fun n : Nat => (n : Int))) (h : laidMet Tryz.prog (("math/bits.deBruijn64tab", d) :: rest) W) : TabAt W := by
  subst hd
  obtain ⟨e, h1, h2, h3, h4⟩ := tab_elem
  have hT := Lib.tabIs_of_head tab_named tab_type h1 h2 h3 h4 h
  unfold Lib.TabIs World.var? at hT
  rw [tab_named] at hT
  simp only [Option.bind_some] at hT
  split at hT
  · rename_i c t fz he
    refine ⟨t, fz, he.trans ?_⟩
    have : c = tabV.toArray := by
      rw [Option.some.inj hT]
      simp [tabV, List.map_map, Function.comp_def]
    rw [this]
  · cases hT
end Go.A.Pk
end
section
set_option maxRecDepth 100000
namespace Go.A.Pk
open Go Go.Proofs
theorem h0_eq : StkQ.h0 = oneH 2 (debL.map fun n => .int .u8 (n : Nat)) 1000 := by kernel_rfl
theorem ok21 : Entry Tryz.prog 21 (.prim pSd) := .prim (primT_ok sound (g := 2) (n := 1000) (vs := debL.map fun n => .int .u8 (n : Nat)) Tryz.func21 (of_decide_eq_true (by kernel_rfl)) (by kernel_rfl) globs_le (by decide) (by kernel_rfl) (by kernel_rfl) fun args v h h' hp => by
  unfold pSd at hp
  split at hp
  · split at hp
    · rename_i hT
      cases hp
      refine ⟨rfl, hT, fun a ha => (nomatch ha), rfl, ?_⟩
      rw [← h0_eq]
      exact StkQ.run
    · cases hp
  · cases hp)
end Go.A.Pk
end
section
set_option maxRecDepth 100000
namespace Go.A.Pk
open Go Go.Proofs Go.Joins Go.ChangeShapes Go.WideShapes Go.RowKit Go.Deep
section
variable {H : Type} {enc : TypeId × Value → H} {W : World} {base : Nat} {spare : Nat → Bool} {held : Bool}
theorem okWide_arr8S {t e : TypeId} {n : Nat} {v : Value} (ht : Tryz.prog.underlying t = some (.array n e)) (h : Value.okWide Tryz.prog W .any base t v) : ∃ cs, v = .agg cs := by
  simp only [Value.okWide, ht] at h
  obtain ⟨cs, h1, _⟩ := h
  exact ⟨cs, h1⟩
theorem open_solid {v : Value} {d : DataW H} {p : List MemPlace} (hv : Value.okWide Tryz.prog W .any base 24 v) (h : DataW.Trod enc Tryz.prog W 0 spare held 24 v d p) : ∃ s : List Nat, IsS s ∧ v = sv s := by
  obtain ⟨cs, rfl⟩ := okWide_arr8S Tryz.underlying24 hv
  obtain ⟨fuel, hf⟩ := h
  obtain ⟨s, hs, hk⟩ := solid_cells hf
  refine ⟨s, hs, ?_⟩
  have : cs = (us s).toArray := by rw [← hk]; simp [Value.cells]
  rw [this]; rfl
end
end Go.A.Pk
end
section
set_option maxRecDepth 100000
namespace Go.A.Pk
open Go Go.Proofs
theorem c6 : compF Tryz.prog Tryz.f6 [[1, 2, 3], [1, 2, 3, 22], [6], [1, 2, 3, 7, 8, 9, 10], [1, 2, 3, 7, 8, 9, 10, 12], [1, 2, 3, 7, 8, 9, 10, 12, 41], [6], [1, 2, 3, 7, 8, 9, 63], [6], [1, 2, 3, 7, 8, 65], [6], [1, 2, 3, 7, 8, 13], [1, 2, 3, 7, 8, 13, 14], [1, 2, 3, 7, 8, 13, 14, 75], [1, 2, 3, 7, 8, 13, 14, 15], [1, 2, 3, 7, 8, 13, 14, 15, 81], [1, 2, 3, 7, 8, 13, 14, 15, 93], [1, 2, 3, 7, 8, 13, 14, 15], [1, 2, 3, 7, 8, 13, 14, 15], [1, 2, 3, 7, 8, 13, 14], [7, 8, 13, 16, 18, 19], [6]] = some f6 := by kernel_rfl
theorem c35 : compF Tryz.prog Tryz.f35 [[2, 3], [4]] = some f35 := by kernel_rfl
theorem c41 : compF Tryz.prog Tryz.f41 [[0], [0, 4], [0, 4, 9], [0, 4, 5], [0, 4, 5, 22], [2, 3], [0, 4], [2, 3]] = some f41 := by kernel_rfl
theorem c48 : compF Tryz.prog Tryz.f48 [[1], [1, 3], [1, 3, 25], [1, 3], [48], [2], [2]] = some f48 := by kernel_rfl
theorem c52 : compF Tryz.prog Tryz.f52 [[2, 3], [4]] = some f52 := by kernel_rfl
theorem c73 : compF Tryz.prog Tryz.f73 [[1, 2, 3, 6], [1, 2, 3, 6, 9], [1, 2, 3, 6, 9, 17], [6, 7], [6, 10], [6, 10, 29], [6, 7], [6, 7]] = some f73 := by kernel_rfl
theorem c113 : compF Tryz.prog Tryz.f113 [[0, 1, 2], [6]] = some f113 := by kernel_rfl
theorem c118 : compF Tryz.prog Tryz.f118 [[2, 3, 4], [2, 3, 4, 5], [2, 3, 4, 5, 7], [2, 3, 4, 5], [2, 3, 4, 5], [4]] = some f118 := by kernel_rfl
theorem c130 : compF Tryz.prog Tryz.f130 [[0, 3], [0, 3, 10], [4], [0, 3, 13], [4], [0, 3, 5], [0, 3, 5, 6], [0, 3, 5, 6, 7], [0, 3, 5, 6, 7, 17], [0, 3, 5, 6, 7, 27], [4], [0, 3, 5, 6, 7], [0, 3, 5, 6, 7], [0, 3, 5, 6, 7], [3, 5, 6, 80], [4], [3, 6, 87], [4], [93], [4], [4]] = some f130 := by kernel_rfl
theorem c136 : compF Tryz.prog Tryz.f136 [[0, 1], [0, 1, 5], [0, 1, 5, 6], [0, 1, 5, 6, 12], [0, 1, 5, 6, 7], [0, 1, 5, 6, 7, 8], [0, 1, 5, 6, 7, 8, 33], [0, 1, 5, 6, 7, 8, 63], [0, 1, 5, 6, 7, 8], [0, 1, 5, 6, 7, 8], [0, 1, 5, 6, 64], [0, 1, 5, 6], [0, 1, 5, 6], [4]] = some f136 := by kernel_rfl
theorem c140 : compF Tryz.prog Tryz.f140 [[2, 3, 4], [2, 3, 4, 5], [2, 3, 4, 5, 7], [2, 3, 4, 5], [2, 3, 4, 5], [4]] = some f140 := by kernel_rfl
theorem c169 : compF Tryz.prog Tryz.f169 [[1, 2, 3, 6], [3, 6, 7], [6, 7, 8], [6, 7, 8, 9], [6, 7, 8, 9, 18], [6, 7, 8, 9, 26], [6, 7, 8, 9], [6, 7, 8, 9], [6, 7, 8, 9], [6]] = some f169 := by kernel_rfl
noncomputable def tree6 : Tr := (.node (.node (.node (.node (.node (.node .nil 6 f6 .nil) 21 (.prim pSd) .nil) 35 f35 (.node (.node .nil 36 f36 .nil) 37 f37 .nil)) 38 f38 (.node (.node (.node .nil 40 f40 .nil) 41 f41 .nil) 44 f44 (.node (.node .nil 47 f47 .nil) 48 f48 .nil))) 52 f52 (.node (.node (.node (.node .nil 73 f73 .nil) 90 f90 .nil) 106 f106 (.node (.node .nil 113 f113 .nil) 118 f118 .nil)) 121 f121 (.node (.node (.node .nil 122 f122 .nil) 123 f123 .nil) 124 f124 (.node (.node .nil 125 f125 .nil) 126 f126 .nil)))) 127 f127 (.node (.node (.node (.node (.node .nil 129 f129 .nil) 130 f130 .nil) 131 f131 (.node (.node .nil 132 f132 .nil) 133 f133 .nil)) 134 f134 (.node (.node (.node .nil 135 f135 .nil) 136 f136 .nil) 140 f140 (.node (.node .nil 169 f169 .nil) 174 f174 .nil))) 213 f213 (.node (.node (.node (.node .nil 214 f214 .nil) 215 f215 .nil) 216 f216 (.node (.node .nil 217 f217 .nil) 218 f218 .nil)) 219 f219 (.node (.node (.node .nil 220 f220 .nil) 264 f264 .nil) 265 f265 (.node .nil 266 f266 .nil)))))
noncomputable def T6 : Nat → Option AFunc := tree6.get
theorem all6 : tree6.all (Entry Tryz.prog) := by
  unfold tree6
  exact (Tr.all_node (Tr.all_node (Tr.all_node (Tr.all_node (Tr.all_node (Tr.all_node Tr.all_nil (.of Tryz.func6 c6) Tr.all_nil) ok21 Tr.all_nil) (.of Tryz.func35 c35) (Tr.all_node (Tr.all_node Tr.all_nil (.of Tryz.func36 c36) Tr.all_nil) (.of Tryz.func37 c37) Tr.all_nil)) (.of Tryz.func38 c38) (Tr.all_node (Tr.all_node (Tr.all_node Tr.all_nil (.of Tryz.func40 c40) Tr.all_nil) (.of Tryz.func41 c41) Tr.all_nil) (.of Tryz.func44 c44) (Tr.all_node (Tr.all_node Tr.all_nil (.of Tryz.func47 c47) Tr.all_nil) (.of Tryz.func48 c48) Tr.all_nil))) (.of Tryz.func52 c52) (Tr.all_node (Tr.all_node (Tr.all_node (Tr.all_node Tr.all_nil (.of Tryz.func73 c73) Tr.all_nil) (.of Tryz.func90 c90) Tr.all_nil) (.of Tryz.func106 c106) (Tr.all_node (Tr.all_node Tr.all_nil (.of Tryz.func113 c113) Tr.all_nil) (.of Tryz.func118 c118) Tr.all_nil)) (.of Tryz.func121 c121) (Tr.all_node (Tr.all_node (Tr.all_node Tr.all_nil (.of Tryz.func122 c122) Tr.all_nil) (.of Tryz.func123 c123) Tr.all_nil) (.of Tryz.func124 c124) (Tr.all_node (Tr.all_node Tr.all_nil (.of Tryz.func125 c125) Tr.all_nil) (.of Tryz.func126 c126) Tr.all_nil)))) (.of Tryz.func127 c127) (Tr.all_node (Tr.all_node (Tr.all_node (Tr.all_node (Tr.all_node Tr.all_nil (.of Tryz.func129 c129) Tr.all_nil) (.of Tryz.func130 c130) Tr.all_nil) (.of Tryz.func131 c131) (Tr.all_node (Tr.all_node Tr.all_nil (.of Tryz.func132 c132) Tr.all_nil) (.of Tryz.func133 c133) Tr.all_nil)) (.of Tryz.func134 c134) (Tr.all_node (Tr.all_node (Tr.all_node Tr.all_nil (.of Tryz.func135 c135) Tr.all_nil) (.of Tryz.func136 c136) Tr.all_nil) (.of Tryz.func140 c140) (Tr.all_node (Tr.all_node Tr.all_nil (.of Tryz.func169 c169) Tr.all_nil) (.of Tryz.func174 c174) Tr.all_nil))) (.of Tryz.func213 c213) (Tr.all_node (Tr.all_node (Tr.all_node (Tr.all_node Tr.all_nil (.of Tryz.func214 c214) Tr.all_nil) (.of Tryz.func215 c215) Tr.all_nil) (.of Tryz.func216 c216) (Tr.all_node (Tr.all_node Tr.all_nil (.of Tryz.func217 c217) Tr.all_nil) (.of Tryz.func218 c218) Tr.all_nil)) (.of Tryz.func219 c219) (Tr.all_node (Tr.all_node (Tr.all_node Tr.all_nil (.of Tryz.func220 c220) Tr.all_nil) (.of Tryz.func264 c264) Tr.all_nil) (.of Tryz.func265 c265) (Tr.all_node Tr.all_nil (.of Tryz.func266 c266) Tr.all_nil)))))
theorem sound6 : SoundT Tryz.prog T6 := soundT_of (by kernel_rfl) all6
theorem fns6 : FnsL6 T6 := { d6 := { k7 := { fo := { toFnsRd := { p := sound6.primAS, f47 := by kernel_rfl, f106 := by kernel_rfl, f90 := by kernel_rfl }, f129 := by kernel_rfl, f216 := by kernel_rfl, f217 := by kernel_rfl, vo := { p := sound6.primAS, f135 := by kernel_rfl, f218 := by kernel_rfl, f219 := by kernel_rfl, f220 := by kernel_rfl } }, rf := { toFnsRr := { p := sound6.primAS, f48 := by kernel_rfl, f113 := by kernel_rfl }, f130 := by kernel_rfl }, sn := { p := sound6.primAS, f122 := by kernel_rfl, f124 := by kernel_rfl, f174 := by kernel_rfl }, kn := { p := sound6.primAS, f136 := by kernel_rfl, f118 := by kernel_rfl, f140 := by kernel_rfl, f169 := by kernel_rfl }, f35 := by kernel_rfl, f37 := by kernel_rfl, f40 := by kernel_rfl, f41 := by kernel_rfl, f44 := by kernel_rfl, f52 := by kernel_rfl, f73 := by kernel_rfl, f121 := by kernel_rfl, f131 := by kernel_rfl, f132 := by kernel_rfl, f133 := by kernel_rfl, f134 := by kernel_rfl }, hv := { h := { p := sound6.primAS, f38 := by kernel_rfl, f126 := by kernel_rfl, f215 := by kernel_rfl, f127 := by kernel_rfl }, f125 := by kernel_rfl }, f36 := by kernel_rfl, cp := { p := sound6.primAS, f123 := by kernel_rfl, f213 := by kernel_rfl, f214 := by kernel_rfl, f264 := by kernel_rfl, f265 := by kernel_rfl, f266 := by kernel_rfl } }, f6 := by kernel_rfl, f21 := by kernel_rfl }
open Go.RowKit in
theorem doubts_calls {W : World} (V : TabAt W) {s : List Nat} (hs : IsS s) {sl : Value} {l : List Rd} (hl : RdsAt W sl l) (day : Int) : Calls Tryz.prog 6 #[sv s, sl, .int .i64 day] W fun e W' => e = .returned (.bool true) ∧ Below W.heap.size W W' := by
  obtain ⟨h, μ, hRR, hro, hrd, hnx, hgl, a, n, hu, hsl, hc⟩ := laidG1 V.gl hl.1
  obtain ⟨r', h', ⟨m, hm⟩, rfl, rfl⟩ := law6 fns6 hrd (hgl 2 _ List.mem_cons_self) (by omega) hs ⟨hsl, hl.2⟩ day
  have hrun := hm m (Nat.le_refl _)
  have ha : LR μ [sv s, .slice a l.length n, .int .i64 day] [sv s, sl, .int .i64 day] := .cons (VR.noRef (sv_noRef s)).1 (.cons hu (.cons (.int _ _) .nil))
  refine (acall_calls sound6 hrun hrd.log (by kernel_rfl) hRR ha).mono fun e W' hq => ?_
  obtain ⟨μ', q1, q2, q3⟩ := hq
  cases e with
  | returned v' =>
    have hv : VR μ' (.bool true) v' := q1
    cases hv
    exact ⟨rfl, St.below q3 hro⟩
  | panicked _ => exact q1.elim
  | outgrown => exact q1.elim
end Go.A.Pk
end
